/- Part 39: rules of the proofs, contracts of functions, plain facts. -/
import Derived.Test.YtkoebplikhlapaaGreatDoorP38
set_option linter.unusedVariables false
set_option linter.unusedSimpArgs false
set_option maxRecDepth 100000
namespace Go.Proofs.YtkoebplikhlapaaGreatDoor
open Go Go.RowKit
theorem Ok.ct {P : Program} {H : List Own} {Γ : Env} {g : Bool} {d : Option Tmp} {y z : Operand} {T T' ty : TypeId} {p : String} {af : Array Edge} {gd : Option (Nat × Bool)} {k k' : List UInt8} (hy : At Γ g y (.text k)) (hz : At Γ g z (.text k')) (hb : g = true → k.length + k'.length ≤ 9223372036854775807 := by intro _; (try simp only [List.length_append, List.length_cons, List.length_nil]); have n10 := nl 10; have n11 := nl 11; have n12 := nl 12; have n4 := nl 4; have n5 := nl 5; have n9 := nl 9; have nk := nl e.kind.toNat; (try simp only [show ((10 : Int)).toNat = 10 from rfl, show ((11 : Int)).toNat = 11 from rfl, show ((12 : Int)).toNat = 12 from rfl, show ((4 : Int)).toNat = 4 from rfl, show ((5 : Int)).toNat = 5 from rfl, show ((9 : Int)).toNat = 9 from rfl]); omega) :
    Ok P H Γ g ⟨d, .binOp .add T y z T', ty, p, af, gd⟩ (.text (k ++ k')) := ok_cat hy hz hb
theorem elt_names (k : Nat) : elt names k = names.getD k [] := rfl
theorem lineB_unfold (e : Ev) : lineB e =
    if e.kind = 1 then (if e.call = 1 then elt names 10 ++ [32] ++ dec e.client ++ [32] ++ dec e.a ++ [32] ++ dec e.val else elt names 11 ++ [32] ++ dec e.client ++ [32] ++ dec e.a ++ [32] ++ dec e.b ++ [32] ++ dec e.c)
    else if e.kind = 2 then elt names e.kind.toNat ++ [32] ++ dec e.client else if e.kind = 3 then elt names e.kind.toNat ++ [32] ++ dec e.client
    else if e.kind = 4 then (if e.keep = 1 then elt names 12 ++ [32] ++ dec e.word else elt names 4 ++ [32] ++ dec e.word)
    else if e.kind = 5 then elt names 5 ++ [32] ++ dec e.word else if e.kind = 6 then elt names e.kind.toNat ++ [32] ++ dec e.at_ else if e.kind = 7 then elt names e.kind.toNat ++ [32] ++ dec e.at_ else if e.kind = 8 then elt names e.kind.toNat ++ [32] ++ dec e.at_
    else if e.kind = 9 then elt names 9 ++ [32] ++ dec e.at_ ++ [32] ++ dec e.slot else [] := by
  simp only [elt_names]
  by_cases h1 : e.kind = 1
  · by_cases h2 : e.call = 1 <;> simp [lineB, evK, h1, h2, lineOf, fieldsB]
  by_cases h4 : e.kind = 4
  · by_cases h2 : e.keep = 1 <;> simp [lineB, evK, h4, h2, lineOf, fieldsB]
  by_cases h2 : e.kind = 2
  · simp [lineB, evK, h2, lineOf, fieldsB]
  by_cases h3 : e.kind = 3
  · simp [lineB, evK, h3, lineOf, fieldsB]
  by_cases h5 : e.kind = 5
  · simp [lineB, evK, h5, lineOf, fieldsB]
  by_cases h6 : e.kind = 6
  · simp [lineB, evK, h6, lineOf, fieldsB]
  by_cases h7 : e.kind = 7
  · simp [lineB, evK, h7, lineOf, fieldsB]
  by_cases h8 : e.kind = 8
  · simp [lineB, evK, h8, lineOf, fieldsB]
  by_cases h9 : e.kind = 9
  · simp [lineB, evK, h9, lineOf, fieldsB]
  simp [lineB, evK, h1, h2, h3, h4, h5, h6, h7, h8, h9]
theorem c_spec_l45Line (e : Ev) (h : e.Fit) :
    Fn Tryz.prog 22 [e.av] (AV.text (lineB e)) := by
 refine Fn.intro 126 Tryz.func22 rfl Tryz.ntmps22 rfl (by kernel_rfl) (fun W I a hs => ?_)
 have hfit : ∀ x, x ∈ e.ints → i64r x := h
 simp only [Ev.ints, List.mem_cons, List.not_mem_nil, or_false] at hfit
 have d_kind := dec_len (hfit e.kind (by simp))
 have d_at_ := dec_len (hfit e.at_ (by simp))
 have d_client := dec_len (hfit e.client (by simp))
 have d_word := dec_len (hfit e.word (by simp))
 have d_keep := dec_len (hfit e.keep (by simp))
 have d_slot := dec_len (hfit e.slot (by simp))
 have d_call := dec_len (hfit e.call (by simp))
 have d_a := dec_len (hfit e.a (by simp))
 have d_b := dec_len (hfit e.b (by simp))
 have d_c := dec_len (hfit e.c (by simp))
 have d_val := dec_len (hfit e.val (by simp))
 have nl := names_le
 refine sr <| hs.o .bp fun hs => hs.sc fun hs => nn <| sr ?_
 refine hs.o (.cl (c_spec_l45Names ..)) fun hs => ?_
 refine hs.s fun hs => nn <| wp_seq <| sr <| hs.o .fp fun hs => hs.o .l1 fun hs => nn <| wp_block <| sr <| hs.o .eqic fun hs => hs.s fun hs => nn ?_
 refine hs.cd (fun hb1 => ?_) fun hb1 => ?_
 ·try simp only [B] at hb1
  refine wp_seq <| sr <| hs.o .fp fun hs => hs.o .l1 fun hs => hs.o .eqic fun hs => nn ?_
  refine hs.cd (fun hb2 => ?_) fun hb2 => ?_
  ·try simp only [B] at hb2
   refine wp_seq <| hs.dk <| .o .mv ?_
   refine .o ((by first | exact ok_idxN un47 ty9 .tt .c (fun _ => by rw [names_len]; omega) | exact ok_idxM un47 ty9 .tt .c (fun _ => by rw [names_len]; omega) | exact ok_idx un47 ty9 .tt .c (fun _ => by rw [names_len]; omega))) ?_
   refine .o .l1 ?_
   refine .o (.ct .tt .c) ?_
   refine .o .fp <| .o .l1 ?_
   refine .o (ok_call (c_spec_l6Dec _ (hfit _ (by simp))) (args_cons (.t rfl) args_nil)) ?_
   refine .o (.ct .tt .tt) ?_
   refine .o (.ct .tt .c) ?_
   refine .o .fp <| .o .l1 ?_
   refine .o (ok_call (c_spec_l6Dec _ (hfit _ (by simp))) (args_cons (.t rfl) args_nil)) ?_
   refine .o (.ct .tt .tt) ?_
   refine .o (.ct .tt .c) ?_
   refine .o .fp <| .o .l1 ?_
   refine .o (ok_call (c_spec_l6Dec _ (hfit _ (by simp))) (args_cons (.t rfl) args_nil)) ?_
   refine .o (.ct .tt .tt) ?_
   refine .o .as <| .nil ?_
   intro I a w hs
   refine then_n <| wp_ret <| then_r <| block_r <| then_r ?_
   refine hs.rt ?_
   first | (exfalso; omega) | (refine ret_av (congrArg AV.text ?_); rw [lineB_unfold]; (repeat (first | rw [if_pos (by omega)] | rw [if_neg (by omega)])) <;> rfl)
  ·try simp only [B] at hb2
   refine wp_skip <| then_n <| wp_seq <| hs.dk <| .o .mv ?_
   refine .o ((by first | exact ok_idxN un47 ty9 .tt .c (fun _ => by rw [names_len]; omega) | exact ok_idxM un47 ty9 .tt .c (fun _ => by rw [names_len]; omega) | exact ok_idx un47 ty9 .tt .c (fun _ => by rw [names_len]; omega))) ?_
   refine .o .l1 ?_
   refine .o (.ct .tt .c) ?_
   refine .o .fp <| .o .l1 ?_
   refine .o (ok_call (c_spec_l6Dec _ (hfit _ (by simp))) (args_cons (.t rfl) args_nil)) ?_
   refine .o (.ct .tt .tt) ?_
   refine .o (.ct .tt .c) ?_
   refine .o .fp <| .o .l1 ?_
   refine .o (ok_call (c_spec_l6Dec _ (hfit _ (by simp))) (args_cons (.t rfl) args_nil)) ?_
   refine .o (.ct .tt .tt) ?_
   refine .o (.ct .tt .c) ?_
   refine .o .fp <| .o .l1 ?_
   refine .o (ok_call (c_spec_l6Dec _ (hfit _ (by simp))) (args_cons (.t rfl) args_nil)) ?_
   refine .o (.ct .tt .tt) ?_
   refine .o (.ct .tt .c) ?_
   refine .o .fp <| .o .l1 ?_
   refine .o (ok_call (c_spec_l6Dec _ (hfit _ (by simp))) (args_cons (.t rfl) args_nil)) ?_
   refine .o (.ct .tt .tt) ?_
   refine .o .as <| .nil ?_
   intro I a w hs
   refine then_n <| wp_ret <| block_r <| then_r ?_
   refine hs.rt ?_
   first | (exfalso; omega) | (refine ret_av (congrArg AV.text ?_); rw [lineB_unfold]; (repeat (first | rw [if_pos (by omega)] | rw [if_neg (by omega)])) <;> rfl)
 ·try simp only [B] at hb1
  refine wp_seq <| sr <| hs.o .eqic fun hs => hs.s fun hs => nn ?_
  refine hs.cd (fun hb3 => ?_) fun hb3 => ?_
  ·try simp only [B] at hb3
   refine wp_skip <| then_n ?_
   refine hs.cd (fun hb4 => ?_) fun hb4 => ?_
   ·try simp only [B] at hb4
    refine wp_seq <| hs.dk <| .o .mv <| .o .fp <| .o .l1 ?_
    refine .o ((by first | exact ok_idxN un47 ty9 .tt .tt (fun _ => by rw [names_len]; omega) | exact ok_idxM un47 ty9 .tt .tt (fun _ => by rw [names_len]; omega) | exact ok_idx un47 ty9 .tt .tt (fun _ => by rw [names_len]; omega))) ?_
    refine .o .l1 ?_
    refine .o (.ct .tt .c) ?_
    refine .o .fp <| .o .l1 ?_
    refine .o (ok_call (c_spec_l6Dec _ (hfit _ (by simp))) (args_cons (.t rfl) args_nil)) ?_
    refine .o (.ct .tt .tt) ?_
    refine .o .as <| .nil ?_
    intro I a w hs
    refine then_n <| wp_ret <| block_r <| then_r ?_
    refine hs.rt ?_
    first | (exfalso; omega) | (refine ret_av (congrArg AV.text ?_); rw [lineB_unfold]; (repeat (first | rw [if_pos (by omega)] | rw [if_neg (by omega)])) <;> rfl)
   ·try simp only [B] at hb4
    refine sr <| hs.o .eqic fun hs => hs.s fun hs => nn ?_
    refine hs.cd (fun hb5 => ?_) fun hb5 => ?_
    ·try simp only [B] at hb5
     refine wp_seq <| sr <| hs.o .fp fun hs => hs.o .l1 fun hs => hs.o .eqic fun hs => nn ?_
     refine hs.cd (fun hb6 => ?_) fun hb6 => ?_
     ·try simp only [B] at hb6
      refine wp_seq <| hs.dk <| .o .mv ?_
      refine .o ((by first | exact ok_idxN un47 ty9 .tt .c (fun _ => by rw [names_len]; omega) | exact ok_idxM un47 ty9 .tt .c (fun _ => by rw [names_len]; omega) | exact ok_idx un47 ty9 .tt .c (fun _ => by rw [names_len]; omega))) ?_
      refine .o .l1 ?_
      refine .o (.ct .tt .c) ?_
      refine .o .fp <| .o .l1 ?_
      refine .o (ok_call (c_spec_l6Dec _ (hfit _ (by simp))) (args_cons (.t rfl) args_nil)) ?_
      refine .o (.ct .tt .tt) ?_
      refine .o .as <| .nil ?_
      intro I a w hs
      refine then_n <| wp_ret <| then_r <| block_r <| then_r ?_
      refine hs.rt ?_
      first | (exfalso; omega) | (refine ret_av (congrArg AV.text ?_); rw [lineB_unfold]; (repeat (first | rw [if_pos (by omega)] | rw [if_neg (by omega)])) <;> rfl)
     ·try simp only [B] at hb6
      refine wp_skip <| then_n <| wp_seq <| hs.dk <| .o .mv ?_
      refine .o ((by first | exact ok_idxN un47 ty9 .tt .c (fun _ => by rw [names_len]; omega) | exact ok_idxM un47 ty9 .tt .c (fun _ => by rw [names_len]; omega) | exact ok_idx un47 ty9 .tt .c (fun _ => by rw [names_len]; omega))) ?_
      refine .o .l1 ?_
      refine .o (.ct .tt .c) ?_
      refine .o .fp <| .o .l1 ?_
      refine .o (ok_call (c_spec_l6Dec _ (hfit _ (by simp))) (args_cons (.t rfl) args_nil)) ?_
      refine .o (.ct .tt .tt) ?_
      refine .o .as <| .nil ?_
      intro I a w hs
      refine then_n <| wp_ret <| block_r <| then_r ?_
      refine hs.rt ?_
      first | (exfalso; omega) | (refine ret_av (congrArg AV.text ?_); rw [lineB_unfold]; (repeat (first | rw [if_pos (by omega)] | rw [if_neg (by omega)])) <;> rfl)
    ·try simp only [B] at hb5
     refine sr <| hs.o .eqic fun hs => hs.s fun hs => nn ?_
     refine hs.cd (fun hb7 => ?_) fun hb7 => ?_
     ·try simp only [B] at hb7
      refine wp_seq <| hs.dk <| .o .mv ?_
      refine .o ((by first | exact ok_idxN un47 ty9 .tt .c (fun _ => by rw [names_len]; omega) | exact ok_idxM un47 ty9 .tt .c (fun _ => by rw [names_len]; omega) | exact ok_idx un47 ty9 .tt .c (fun _ => by rw [names_len]; omega))) ?_
      refine .o .l1 ?_
      refine .o (.ct .tt .c) ?_
      refine .o .fp <| .o .l1 ?_
      refine .o (ok_call (c_spec_l6Dec _ (hfit _ (by simp))) (args_cons (.t rfl) args_nil)) ?_
      refine .o (.ct .tt .tt) ?_
      refine .o .as <| .nil ?_
      intro I a w hs
      refine then_n <| wp_ret <| block_r <| then_r ?_
      refine hs.rt ?_
      first | (exfalso; omega) | (refine ret_av (congrArg AV.text ?_); rw [lineB_unfold]; (repeat (first | rw [if_pos (by omega)] | rw [if_neg (by omega)])) <;> rfl)
     ·try simp only [B] at hb7
      refine wp_seq <| sr <| hs.o .eqic fun hs => hs.s fun hs => nn ?_
      refine hs.cd (fun hb8 => ?_) fun hb8 => ?_
      ·try simp only [B] at hb8
       refine wp_skip <| then_n ?_
       refine hs.cd (fun hb9 => ?_) fun hb9 => ?_
       ·try simp only [B] at hb9
        refine wp_seq <| hs.dk <| .o .mv <| .o .fp <| .o .l1 ?_
        refine .o ((by first | exact ok_idxN un47 ty9 .tt .tt (fun _ => by rw [names_len]; omega) | exact ok_idxM un47 ty9 .tt .tt (fun _ => by rw [names_len]; omega) | exact ok_idx un47 ty9 .tt .tt (fun _ => by rw [names_len]; omega))) ?_
        refine .o .l1 ?_
        refine .o (.ct .tt .c) ?_
        refine .o .fp <| .o .l1 ?_
        refine .o (ok_call (c_spec_l6Dec _ (hfit _ (by simp))) (args_cons (.t rfl) args_nil)) ?_
        refine .o (.ct .tt .tt) ?_
        refine .o .as <| .nil ?_
        intro I a w hs
        refine then_n <| wp_ret <| block_r <| then_r ?_
        refine hs.rt ?_
        first | (exfalso; omega) | (refine ret_av (congrArg AV.text ?_); rw [lineB_unfold]; (repeat (first | rw [if_pos (by omega)] | rw [if_neg (by omega)])) <;> rfl)
       ·try simp only [B] at hb9
        refine sr <| hs.o .eqic fun hs => hs.s fun hs => nn ?_
        refine hs.cd (fun hb10 => ?_) fun hb10 => ?_
        ·try simp only [B] at hb10
         refine wp_seq <| hs.dk <| .o .mv ?_
         refine .o ((by first | exact ok_idxN un47 ty9 .tt .c (fun _ => by rw [names_len]; omega) | exact ok_idxM un47 ty9 .tt .c (fun _ => by rw [names_len]; omega) | exact ok_idx un47 ty9 .tt .c (fun _ => by rw [names_len]; omega))) ?_
         refine .o .l1 ?_
         refine .o (.ct .tt .c) ?_
         refine .o .fp <| .o .l1 ?_
         refine .o (ok_call (c_spec_l6Dec _ (hfit _ (by simp))) (args_cons (.t rfl) args_nil)) ?_
         refine .o (.ct .tt .tt) ?_
         refine .o (.ct .tt .c) ?_
         refine .o .fp <| .o .l1 ?_
         refine .o (ok_call (c_spec_l6Dec _ (hfit _ (by simp))) (args_cons (.t rfl) args_nil)) ?_
         refine .o (.ct .tt .tt) ?_
         refine .o .as <| .nil ?_
         intro I a w hs
         refine then_n <| wp_ret <| block_r <| then_r ?_
         refine hs.rt ?_
         first | (exfalso; omega) | (refine ret_av (congrArg AV.text ?_); rw [lineB_unfold]; (repeat (first | rw [if_pos (by omega)] | rw [if_neg (by omega)])) <;> rfl)
        ·try simp only [B] at hb10
         refine wp_skip <| block_n <| then_n <| sr <| hs.sc fun hs => nn <| wp_ret ?_
         refine hs.rt ?_
         first | (exfalso; omega) | (refine ret_av (congrArg AV.text ?_); rw [lineB_unfold]; (repeat (first | rw [if_pos (by omega)] | rw [if_neg (by omega)])) <;> rfl)
      ·try simp only [B] at hb8
       refine sr <| hs.o .eqic fun hs => hs.s fun hs => nn ?_
       refine hs.cd (fun hb11 => ?_) fun hb11 => ?_
       ·try simp only [B] at hb11
        refine wp_skip <| then_n ?_
        refine hs.cd (fun hb12 => ?_) fun hb12 => ?_
        ·try simp only [B] at hb12
         refine wp_seq <| hs.dk <| .o .mv <| .o .fp <| .o .l1 ?_
         refine .o ((by first | exact ok_idxN un47 ty9 .tt .tt (fun _ => by rw [names_len]; omega) | exact ok_idxM un47 ty9 .tt .tt (fun _ => by rw [names_len]; omega) | exact ok_idx un47 ty9 .tt .tt (fun _ => by rw [names_len]; omega))) ?_
         refine .o .l1 ?_
         refine .o (.ct .tt .c) ?_
         refine .o .fp <| .o .l1 ?_
         refine .o (ok_call (c_spec_l6Dec _ (hfit _ (by simp))) (args_cons (.t rfl) args_nil)) ?_
         refine .o (.ct .tt .tt) ?_
         refine .o .as <| .nil ?_
         intro I a w hs
         refine then_n <| wp_ret <| block_r <| then_r ?_
         refine hs.rt ?_
         first | (exfalso; omega) | (refine ret_av (congrArg AV.text ?_); rw [lineB_unfold]; (repeat (first | rw [if_pos (by omega)] | rw [if_neg (by omega)])) <;> rfl)
        ·try simp only [B] at hb12
         refine sr <| hs.o .eqic fun hs => hs.s fun hs => nn ?_
         refine hs.cd (fun hb13 => ?_) fun hb13 => ?_
         ·try simp only [B] at hb13
          refine wp_seq <| hs.dk <| .o .mv ?_
          refine .o ((by first | exact ok_idxN un47 ty9 .tt .c (fun _ => by rw [names_len]; omega) | exact ok_idxM un47 ty9 .tt .c (fun _ => by rw [names_len]; omega) | exact ok_idx un47 ty9 .tt .c (fun _ => by rw [names_len]; omega))) ?_
          refine .o .l1 ?_
          refine .o (.ct .tt .c) ?_
          refine .o .fp <| .o .l1 ?_
          refine .o (ok_call (c_spec_l6Dec _ (hfit _ (by simp))) (args_cons (.t rfl) args_nil)) ?_
          refine .o (.ct .tt .tt) ?_
          refine .o (.ct .tt .c) ?_
          refine .o .fp <| .o .l1 ?_
          refine .o (ok_call (c_spec_l6Dec _ (hfit _ (by simp))) (args_cons (.t rfl) args_nil)) ?_
          refine .o (.ct .tt .tt) ?_
          refine .o .as <| .nil ?_
          intro I a w hs
          refine then_n <| wp_ret <| block_r <| then_r ?_
          refine hs.rt ?_
          first | (exfalso; omega) | (refine ret_av (congrArg AV.text ?_); rw [lineB_unfold]; (repeat (first | rw [if_pos (by omega)] | rw [if_neg (by omega)])) <;> rfl)
         ·try simp only [B] at hb13
          refine wp_skip <| block_n <| then_n <| sr <| hs.sc fun hs => nn <| wp_ret ?_
          refine hs.rt ?_
          first | (exfalso; omega) | (refine ret_av (congrArg AV.text ?_); rw [lineB_unfold]; (repeat (first | rw [if_pos (by omega)] | rw [if_neg (by omega)])) <;> rfl)
       ·try simp only [B] at hb11
        refine St.region <| hs.o .eqic fun hs => hs.s fun hs => nn ?_
        refine hs.cd (fun hb14 => ?_) fun hb14 => ?_
        ·try simp only [B] at hb14
         refine wp_seq <| hs.dk <| .o .mv <| .o .fp <| .o .l1 ?_
         refine .o ((by first | exact ok_idxN un47 ty9 .tt .tt (fun _ => by rw [names_len]; omega) | exact ok_idxM un47 ty9 .tt .tt (fun _ => by rw [names_len]; omega) | exact ok_idx un47 ty9 .tt .tt (fun _ => by rw [names_len]; omega))) ?_
         refine .o .l1 ?_
         refine .o (.ct .tt .c) ?_
         refine .o .fp <| .o .l1 ?_
         refine .o (ok_call (c_spec_l6Dec _ (hfit _ (by simp))) (args_cons (.t rfl) args_nil)) ?_
         refine .o (.ct .tt .tt) ?_
         refine .o .as <| .nil ?_
         intro I a w hs
         refine then_n <| wp_ret <| block_r <| then_r ?_
         refine hs.rt ?_
         first | (exfalso; omega) | (refine ret_av (congrArg AV.text ?_); rw [lineB_unfold]; (repeat (first | rw [if_pos (by omega)] | rw [if_neg (by omega)])) <;> rfl)
        ·try simp only [B] at hb14
         refine sr <| hs.o .eqic fun hs => hs.s fun hs => nn ?_
         refine hs.cd (fun hb15 => ?_) fun hb15 => ?_
         ·try simp only [B] at hb15
          refine wp_seq <| hs.dk <| .o .mv ?_
          refine .o ((by first | exact ok_idxN un47 ty9 .tt .c (fun _ => by rw [names_len]; omega) | exact ok_idxM un47 ty9 .tt .c (fun _ => by rw [names_len]; omega) | exact ok_idx un47 ty9 .tt .c (fun _ => by rw [names_len]; omega))) ?_
          refine .o .l1 ?_
          refine .o (.ct .tt .c) ?_
          refine .o .fp <| .o .l1 ?_
          refine .o (ok_call (c_spec_l6Dec _ (hfit _ (by simp))) (args_cons (.t rfl) args_nil)) ?_
          refine .o (.ct .tt .tt) ?_
          refine .o (.ct .tt .c) ?_
          refine .o .fp <| .o .l1 ?_
          refine .o (ok_call (c_spec_l6Dec _ (hfit _ (by simp))) (args_cons (.t rfl) args_nil)) ?_
          refine .o (.ct .tt .tt) ?_
          refine .o .as <| .nil ?_
          intro I a w hs
          refine then_n <| wp_ret <| block_r <| then_r ?_
          refine hs.rt ?_
          first | (exfalso; omega) | (refine ret_av (congrArg AV.text ?_); rw [lineB_unfold]; (repeat (first | rw [if_pos (by omega)] | rw [if_neg (by omega)])) <;> rfl)
         ·try simp only [B] at hb15
          refine wp_skip <| block_n <| then_n <| sr <| hs.sc fun hs => nn <| wp_ret ?_
          refine hs.rt ?_
          first | (exfalso; omega) | (refine ret_av (congrArg AV.text ?_); rw [lineB_unfold]; (repeat (first | rw [if_pos (by omega)] | rw [if_neg (by omega)])) <;> rfl)
  ·try simp only [B] at hb3
   refine St.region <| hs.o .eqic fun hs => hs.s fun hs => nn ?_
   refine hs.cd (fun hb16 => ?_) fun hb16 => ?_
   ·try simp only [B] at hb16
    refine wp_seq <| hs.dk <| .o .mv <| .o .fp <| .o .l1 ?_
    refine .o ((by first | exact ok_idxN un47 ty9 .tt .tt (fun _ => by rw [names_len]; omega) | exact ok_idxM un47 ty9 .tt .tt (fun _ => by rw [names_len]; omega) | exact ok_idx un47 ty9 .tt .tt (fun _ => by rw [names_len]; omega))) ?_
    refine .o .l1 ?_
    refine .o (.ct .tt .c) ?_
    refine .o .fp <| .o .l1 ?_
    refine .o (ok_call (c_spec_l6Dec _ (hfit _ (by simp))) (args_cons (.t rfl) args_nil)) ?_
    refine .o (.ct .tt .tt) ?_
    refine .o .as <| .nil ?_
    intro I a w hs
    refine then_n <| wp_ret <| block_r <| then_r ?_
    refine hs.rt ?_
    first | (exfalso; omega) | (refine ret_av (congrArg AV.text ?_); rw [lineB_unfold]; (repeat (first | rw [if_pos (by omega)] | rw [if_neg (by omega)])) <;> rfl)
   ·try simp only [B] at hb16
    refine sr <| hs.o .eqic fun hs => hs.s fun hs => nn ?_
    refine hs.cd (fun hb17 => ?_) fun hb17 => ?_
    ·try simp only [B] at hb17
     refine wp_seq <| sr <| hs.o .fp fun hs => hs.o .l1 fun hs => hs.o .eqic fun hs => nn ?_
     refine hs.cd (fun hb18 => ?_) fun hb18 => ?_
     ·try simp only [B] at hb18
      refine wp_seq <| hs.dk <| .o .mv ?_
      refine .o ((by first | exact ok_idxN un47 ty9 .tt .c (fun _ => by rw [names_len]; omega) | exact ok_idxM un47 ty9 .tt .c (fun _ => by rw [names_len]; omega) | exact ok_idx un47 ty9 .tt .c (fun _ => by rw [names_len]; omega))) ?_
      refine .o .l1 ?_
      refine .o (.ct .tt .c) ?_
      refine .o .fp <| .o .l1 ?_
      refine .o (ok_call (c_spec_l6Dec _ (hfit _ (by simp))) (args_cons (.t rfl) args_nil)) ?_
      refine .o (.ct .tt .tt) ?_
      refine .o .as <| .nil ?_
      intro I a w hs
      refine then_n <| wp_ret <| then_r <| block_r <| then_r ?_
      refine hs.rt ?_
      first | (exfalso; omega) | (refine ret_av (congrArg AV.text ?_); rw [lineB_unfold]; (repeat (first | rw [if_pos (by omega)] | rw [if_neg (by omega)])) <;> rfl)
     ·try simp only [B] at hb18
      refine wp_skip <| then_n <| wp_seq <| hs.dk <| .o .mv ?_
      refine .o ((by first | exact ok_idxN un47 ty9 .tt .c (fun _ => by rw [names_len]; omega) | exact ok_idxM un47 ty9 .tt .c (fun _ => by rw [names_len]; omega) | exact ok_idx un47 ty9 .tt .c (fun _ => by rw [names_len]; omega))) ?_
      refine .o .l1 ?_
      refine .o (.ct .tt .c) ?_
      refine .o .fp <| .o .l1 ?_
      refine .o (ok_call (c_spec_l6Dec _ (hfit _ (by simp))) (args_cons (.t rfl) args_nil)) ?_
      refine .o (.ct .tt .tt) ?_
      refine .o .as <| .nil ?_
      intro I a w hs
      refine then_n <| wp_ret <| block_r <| then_r ?_
      refine hs.rt ?_
      first | (exfalso; omega) | (refine ret_av (congrArg AV.text ?_); rw [lineB_unfold]; (repeat (first | rw [if_pos (by omega)] | rw [if_neg (by omega)])) <;> rfl)
    ·try simp only [B] at hb17
     refine sr <| hs.o .eqic fun hs => hs.s fun hs => nn ?_
     refine hs.cd (fun hb19 => ?_) fun hb19 => ?_
     ·try simp only [B] at hb19
      refine wp_seq <| hs.dk <| .o .mv ?_
      refine .o ((by first | exact ok_idxN un47 ty9 .tt .c (fun _ => by rw [names_len]; omega) | exact ok_idxM un47 ty9 .tt .c (fun _ => by rw [names_len]; omega) | exact ok_idx un47 ty9 .tt .c (fun _ => by rw [names_len]; omega))) ?_
      refine .o .l1 ?_
      refine .o (.ct .tt .c) ?_
      refine .o .fp <| .o .l1 ?_
      refine .o (ok_call (c_spec_l6Dec _ (hfit _ (by simp))) (args_cons (.t rfl) args_nil)) ?_
      refine .o (.ct .tt .tt) ?_
      refine .o .as <| .nil ?_
      intro I a w hs
      refine then_n <| wp_ret <| block_r <| then_r ?_
      refine hs.rt ?_
      first | (exfalso; omega) | (refine ret_av (congrArg AV.text ?_); rw [lineB_unfold]; (repeat (first | rw [if_pos (by omega)] | rw [if_neg (by omega)])) <;> rfl)
     ·try simp only [B] at hb19
      refine wp_seq <| sr <| hs.o .eqic fun hs => hs.s fun hs => nn ?_
      refine hs.cd (fun hb20 => ?_) fun hb20 => ?_
      ·try simp only [B] at hb20
       refine wp_skip <| then_n ?_
       refine hs.cd (fun hb21 => ?_) fun hb21 => ?_
       ·try simp only [B] at hb21
        refine wp_seq <| hs.dk <| .o .mv <| .o .fp <| .o .l1 ?_
        refine .o ((by first | exact ok_idxN un47 ty9 .tt .tt (fun _ => by rw [names_len]; omega) | exact ok_idxM un47 ty9 .tt .tt (fun _ => by rw [names_len]; omega) | exact ok_idx un47 ty9 .tt .tt (fun _ => by rw [names_len]; omega))) ?_
        refine .o .l1 ?_
        refine .o (.ct .tt .c) ?_
        refine .o .fp <| .o .l1 ?_
        refine .o (ok_call (c_spec_l6Dec _ (hfit _ (by simp))) (args_cons (.t rfl) args_nil)) ?_
        refine .o (.ct .tt .tt) ?_
        refine .o .as <| .nil ?_
        intro I a w hs
        refine then_n <| wp_ret <| block_r <| then_r ?_
        refine hs.rt ?_
        first | (exfalso; omega) | (refine ret_av (congrArg AV.text ?_); rw [lineB_unfold]; (repeat (first | rw [if_pos (by omega)] | rw [if_neg (by omega)])) <;> rfl)
       ·try simp only [B] at hb21
        refine sr <| hs.o .eqic fun hs => hs.s fun hs => nn ?_
        refine hs.cd (fun hb22 => ?_) fun hb22 => ?_
        ·try simp only [B] at hb22
         refine wp_seq <| hs.dk <| .o .mv ?_
         refine .o ((by first | exact ok_idxN un47 ty9 .tt .c (fun _ => by rw [names_len]; omega) | exact ok_idxM un47 ty9 .tt .c (fun _ => by rw [names_len]; omega) | exact ok_idx un47 ty9 .tt .c (fun _ => by rw [names_len]; omega))) ?_
         refine .o .l1 ?_
         refine .o (.ct .tt .c) ?_
         refine .o .fp <| .o .l1 ?_
         refine .o (ok_call (c_spec_l6Dec _ (hfit _ (by simp))) (args_cons (.t rfl) args_nil)) ?_
         refine .o (.ct .tt .tt) ?_
         refine .o (.ct .tt .c) ?_
         refine .o .fp <| .o .l1 ?_
         refine .o (ok_call (c_spec_l6Dec _ (hfit _ (by simp))) (args_cons (.t rfl) args_nil)) ?_
         refine .o (.ct .tt .tt) ?_
         refine .o .as <| .nil ?_
         intro I a w hs
         refine then_n <| wp_ret <| block_r <| then_r ?_
         refine hs.rt ?_
         first | (exfalso; omega) | (refine ret_av (congrArg AV.text ?_); rw [lineB_unfold]; (repeat (first | rw [if_pos (by omega)] | rw [if_neg (by omega)])) <;> rfl)
        ·try simp only [B] at hb22
         refine wp_skip <| block_n <| then_n <| sr <| hs.sc fun hs => nn <| wp_ret ?_
         refine hs.rt ?_
         first | (exfalso; omega) | (refine ret_av (congrArg AV.text ?_); rw [lineB_unfold]; (repeat (first | rw [if_pos (by omega)] | rw [if_neg (by omega)])) <;> rfl)
      ·try simp only [B] at hb20
       refine sr <| hs.o .eqic fun hs => hs.s fun hs => nn ?_
       refine hs.cd (fun hb23 => ?_) fun hb23 => ?_
       ·try simp only [B] at hb23
        refine wp_skip <| then_n ?_
        refine hs.cd (fun hb24 => ?_) fun hb24 => ?_
        ·try simp only [B] at hb24
         refine wp_seq <| hs.dk <| .o .mv <| .o .fp <| .o .l1 ?_
         refine .o ((by first | exact ok_idxN un47 ty9 .tt .tt (fun _ => by rw [names_len]; omega) | exact ok_idxM un47 ty9 .tt .tt (fun _ => by rw [names_len]; omega) | exact ok_idx un47 ty9 .tt .tt (fun _ => by rw [names_len]; omega))) ?_
         refine .o .l1 ?_
         refine .o (.ct .tt .c) ?_
         refine .o .fp <| .o .l1 ?_
         refine .o (ok_call (c_spec_l6Dec _ (hfit _ (by simp))) (args_cons (.t rfl) args_nil)) ?_
         refine .o (.ct .tt .tt) ?_
         refine .o .as <| .nil ?_
         intro I a w hs
         refine then_n <| wp_ret <| block_r <| then_r ?_
         refine hs.rt ?_
         first | (exfalso; omega) | (refine ret_av (congrArg AV.text ?_); rw [lineB_unfold]; (repeat (first | rw [if_pos (by omega)] | rw [if_neg (by omega)])) <;> rfl)
        ·try simp only [B] at hb24
         refine sr <| hs.o .eqic fun hs => hs.s fun hs => nn ?_
         refine hs.cd (fun hb25 => ?_) fun hb25 => ?_
         ·try simp only [B] at hb25
          refine wp_seq <| hs.dk <| .o .mv ?_
          refine .o ((by first | exact ok_idxN un47 ty9 .tt .c (fun _ => by rw [names_len]; omega) | exact ok_idxM un47 ty9 .tt .c (fun _ => by rw [names_len]; omega) | exact ok_idx un47 ty9 .tt .c (fun _ => by rw [names_len]; omega))) ?_
          refine .o .l1 ?_
          refine .o (.ct .tt .c) ?_
          refine .o .fp <| .o .l1 ?_
          refine .o (ok_call (c_spec_l6Dec _ (hfit _ (by simp))) (args_cons (.t rfl) args_nil)) ?_
          refine .o (.ct .tt .tt) ?_
          refine .o (.ct .tt .c) ?_
          refine .o .fp <| .o .l1 ?_
          refine .o (ok_call (c_spec_l6Dec _ (hfit _ (by simp))) (args_cons (.t rfl) args_nil)) ?_
          refine .o (.ct .tt .tt) ?_
          refine .o .as <| .nil ?_
          intro I a w hs
          refine then_n <| wp_ret <| block_r <| then_r ?_
          refine hs.rt ?_
          first | (exfalso; omega) | (refine ret_av (congrArg AV.text ?_); rw [lineB_unfold]; (repeat (first | rw [if_pos (by omega)] | rw [if_neg (by omega)])) <;> rfl)
         ·try simp only [B] at hb25
          refine wp_skip <| block_n <| then_n <| sr <| hs.sc fun hs => nn <| wp_ret ?_
          refine hs.rt ?_
          first | (exfalso; omega) | (refine ret_av (congrArg AV.text ?_); rw [lineB_unfold]; (repeat (first | rw [if_pos (by omega)] | rw [if_neg (by omega)])) <;> rfl)
       ·try simp only [B] at hb23
        refine St.region <| hs.o .eqic fun hs => hs.s fun hs => nn ?_
        refine hs.cd (fun hb26 => ?_) fun hb26 => ?_
        ·try simp only [B] at hb26
         refine wp_seq <| hs.dk <| .o .mv <| .o .fp <| .o .l1 ?_
         refine .o ((by first | exact ok_idxN un47 ty9 .tt .tt (fun _ => by rw [names_len]; omega) | exact ok_idxM un47 ty9 .tt .tt (fun _ => by rw [names_len]; omega) | exact ok_idx un47 ty9 .tt .tt (fun _ => by rw [names_len]; omega))) ?_
         refine .o .l1 ?_
         refine .o (.ct .tt .c) ?_
         refine .o .fp <| .o .l1 ?_
         refine .o (ok_call (c_spec_l6Dec _ (hfit _ (by simp))) (args_cons (.t rfl) args_nil)) ?_
         refine .o (.ct .tt .tt) ?_
         refine .o .as <| .nil ?_
         intro I a w hs
         refine then_n <| wp_ret <| block_r <| then_r ?_
         refine hs.rt ?_
         first | (exfalso; omega) | (refine ret_av (congrArg AV.text ?_); rw [lineB_unfold]; (repeat (first | rw [if_pos (by omega)] | rw [if_neg (by omega)])) <;> rfl)
        ·try simp only [B] at hb26
         refine sr <| hs.o .eqic fun hs => hs.s fun hs => nn ?_
         refine hs.cd (fun hb27 => ?_) fun hb27 => ?_
         ·try simp only [B] at hb27
          refine wp_seq <| hs.dk <| .o .mv ?_
          refine .o ((by first | exact ok_idxN un47 ty9 .tt .c (fun _ => by rw [names_len]; omega) | exact ok_idxM un47 ty9 .tt .c (fun _ => by rw [names_len]; omega) | exact ok_idx un47 ty9 .tt .c (fun _ => by rw [names_len]; omega))) ?_
          refine .o .l1 ?_
          refine .o (.ct .tt .c) ?_
          refine .o .fp <| .o .l1 ?_
          refine .o (ok_call (c_spec_l6Dec _ (hfit _ (by simp))) (args_cons (.t rfl) args_nil)) ?_
          refine .o (.ct .tt .tt) ?_
          refine .o (.ct .tt .c) ?_
          refine .o .fp <| .o .l1 ?_
          refine .o (ok_call (c_spec_l6Dec _ (hfit _ (by simp))) (args_cons (.t rfl) args_nil)) ?_
          refine .o (.ct .tt .tt) ?_
          refine .o .as <| .nil ?_
          intro I a w hs
          refine then_n <| wp_ret <| block_r <| then_r ?_
          refine hs.rt ?_
          first | (exfalso; omega) | (refine ret_av (congrArg AV.text ?_); rw [lineB_unfold]; (repeat (first | rw [if_pos (by omega)] | rw [if_neg (by omega)])) <;> rfl)
         ·try simp only [B] at hb27
          refine wp_skip <| block_n <| then_n <| sr <| hs.sc fun hs => nn <| wp_ret ?_
          refine hs.rt ?_
          first | (exfalso; omega) | (refine ret_av (congrArg AV.text ?_); rw [lineB_unfold]; (repeat (first | rw [if_pos (by omega)] | rw [if_neg (by omega)])) <;> rfl)
def neckW (out : List UInt8) : List Ev → List UInt8
  | [] => out
  | e :: r => if evLine e = [] ∨ 60000 < out.length + (evLine e).length then [] else neckW (out ++ evLine e) r
theorem evLine_bad {e : Ev} (h : readB (lineB e) ≠ some e) : evLine e = [] := by unfold evLine; rw [if_neg h]
theorem evLine_good {e : Ev} (h : readB (lineB e) = some e) : evLine e = lineB e ++ [10] := by unfold evLine; rw [if_pos h]
theorem readT_test {e : Ev} {o : Option Ev} (h : (!o.isSome || (o.getD default).ints != e.ints) = false) : o = some e := by
  cases o with
  | none => simp at h
  | some f => simp at h; rw [Ev.ints_inj h]
theorem read_test2 {e : Ev} {o : Option Ev} (h : (!o.isSome || (o.getD default).ints != e.ints) = true) : o ≠ some e := fun hh => by
  subst hh; simp at h
theorem c_spec_NeckWrite (l : List Ev) (hl : l.length ≤ 1048576) (h : ∀ e ∈ l, e.Fit) :
    Fn Tryz.prog 11 [evsAV l] (AV.text (neckW [] l)) := by
 refine Fn.intro 42 Tryz.func11 rfl Tryz.ntmps11 rfl (by kernel_rfl) (fun W I a hs => ?_)
 refine sr <| hs.sc fun hs => nn <| sr <| hs.sc fun hs => nn <| wp_seq <| sr <| hs.sc fun hs => nn <| wp_block ?_
 refine St.lo (σ := Nat × List UInt8) (run 39 2 []) ⟨fun ⟨k, out⟩ => [(4, AV.int k), (3, AV.text out)], fun ⟨k, out⟩ => [], fun ⟨k, out⟩ => k ≤ l.length ∧ neckW [] l = neckW out (l.drop k) ∧ out.length ≤ 60000⟩ (fun ⟨k, out⟩ => l.length - k) (0, []) hs ?ok1 ?round1
 case ok1 => exact ⟨by simp, rfl, by simp⟩
 case round1 =>
  rintro ⟨k, out⟩ I a w hok hs
  obtain ⟨hk, he, hol⟩ := hok
  refine wp_seq <| sr <| hs.m fun hs => hs.m fun hs => ?_
  refine hs.o .ln fun hs => ?_
  refine hs.o .lss fun hs => nn ?_
  refine hs.cd (fun hb1 => ?_) fun hb1 => ?_
  ·try simp only [B] at hb1
   refine wp_skip <| then_n <| wp_seq <| wp_block <| sr ?_
   have hfe : (elt l k).Fit := h _ (by rw [elt, List.getD_eq_getElem?_getD, List.getElem?_eq_getElem hb1]; exact List.getElem_mem _)
   refine hs.m fun hs => hs.m fun hs => ?_
   refine hs.o .ix fun hs => ?_
   refine hs.o .la fun hs => ?_
   refine hs.o (.c1 (c_spec_l45Line _ hfe)) fun hs => hs.s fun hs => nn <| sr <| hs.m fun hs => ?_
   refine hs.o (ok_call (c_spec_l45Read _ (by have := lineB_len hfe; omega)) (args_cons (.t rfl) args_nil)) fun hs => ?_
   refine hs.m fun hs => ?_
   refine hs.o .e fun hs => hs.o .e fun hs => hs.alloc rfl ty50 zc50 fun b6 I a w hs => ?_
   refine hs.sb 0 fun hs => ?_
   obtain ⟨I, hs, hf⟩ := hs.freezeBox 0 rfl
   have hs := hs.upd (t := 6) rfl hf; clear hf
   refine hs.s fun hs => nn <| wp_seq <| wp_seq <| hs.dk <| .o .mv <| .o .nt <| .o .mv ?_
   refine .q .F .la ?_
   refine .q .F .mv <| .q .F .mv ?_
   refine .q .F .ix ?_
   refine .q .F .la ?_
   refine .q .F (ok_neS [_, _, _, _, _, _, _, _, _, _, _] [_, _, _, _, _, _, _, _, _, _, _] eqt50 rfl rfl .ag .ag) ?_
   refine .o .or <| .nil ?_
   intro I a w hs
   refine then_n ?_
   refine hs.cd (fun hb2 => ?_) fun hb2 => ?_
   ·skip
    refine sr <| hs.sc fun hs => nn <| wp_ret <| then_r <| block_r <| then_r <| then_r <| block_r <| then_r ?_
    refine hs.rt ?_
    exact ret_av (congrArg AV.text (by rw [he, drop_elt hb1, neckW, evLine_bad (read_test2 hb2), if_pos (.inl rfl)]))
   ·skip
    refine wp_skip <| then_n <| sr <| hs.m fun hs => hs.m fun hs => ?_
    refine hs.o (ok_cat .tt .tt (fun _ => by have := lineB_len hfe; omega)) fun hs => ?_
    refine hs.o (ok_cat .tt .c (fun _ => by have := lineB_len hfe; simp only [List.length_append, List.length_cons, List.length_nil]; omega)) fun hs => ?_
    refine hs.s fun hs => nn <| sr <| hs.m fun hs => hs.o (ok_lenT un9 .tt) fun hs => hs.o .gtrc fun hs => nn ?_
    refine hs.cd (fun hb3 => ?_) fun hb3 => ?_
    ·try simp only [B] at hb3
     refine sr <| hs.sc fun hs => nn <| wp_ret <| block_r <| then_r <| then_r <| block_r <| then_r ?_
     refine hs.rt ?_
     exact ret_av (congrArg AV.text (by rw [he, drop_elt hb1, neckW, evLine_good (readT_test hb2), if_pos (.inr (by simp at hb3 ⊢; omega))]))
    ·try simp only [B] at hb3
     refine wp_skip <| block_n <| then_n <| St.region <| hs.m fun hs => ?_
     refine hs.o .ad fun hs => ?_
     refine hs.s fun hs => nn ?_
     have hs := hs.drop 0
     refine hs.again (k + 1, out ++ evLine (elt l k)) ?mu1 ?ok1001 (by rfl) ?env1001 (by repeat (first | exact Env.le_rfl | refine Env.le_push rfl ?_))
     case mu1 => simp; omega
     case ok1001 => exact ⟨hb1, by rw [he, drop_elt hb1, neckW, evLine_good (readT_test hb2), if_neg]; simp; simp at hb3; omega, by rw [evLine_good (readT_test hb2)]; simp at hb3 ⊢; omega⟩
     case env1001 => exact (Env.le_consE rfl (by rfl) (Env.le_consE rfl (by (rw [evLine_good (readT_test hb2), ← List.append_assoc]) <;> rfl) Env.le_nil))
  ·try simp only [B] at hb1
   refine wp_exit <| then_x <| then_x <| block_hit <| then_n <| sr <| hs.m fun hs => hs.s fun hs => nn <| wp_ret ?_
   refine hs.rt ?_
   exact ret_av (congrArg AV.text (by rw [he, List.drop_eq_nil_of_le (by omega)]; rfl))
end Go.Proofs.YtkoebplikhlapaaGreatDoor
