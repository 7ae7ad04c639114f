/- Part 32: rules of the proofs, contracts of functions, plain facts. -/
import Derived.Test.YtkoebplikhlapaaGreatDoorP31
set_option linter.unusedVariables false
set_option linter.unusedSimpArgs false
set_option maxRecDepth 100000
namespace Go.Proofs.YtkoebplikhlapaaGreatDoor
open Go Go.RowKit
set_option maxHeartbeats 4000000 in
theorem c_spec_CallHear (q : Call) (m : Word) (t : Int) (h : CallGood q t) (ht : t ≤ 1000000) :
    Fn Tryz.prog 114 [q.av, m.av, AV.int t] ((callHear q m t).av) := by
 refine Fn.intro 135 Tryz.func114 rfl Tryz.ntmps114 rfl (by kernel_rfl) (fun W I a hs => ?_)
 have hok := callOk_iff.2 h
 have hln := h.lens
 have hb := h.begin_
 have her := h.endRange (by omega)
 have hcl := clientB_iff.1 h.client
 refine sr <| hs.o .bp fun hs => hs.o .bp fun hs => hs.alloc rfl ty118 zc118 fun b6 I a w hs => nn <| wp_seq <| sr ?_
 refine hs.o .la fun hs => ?_
 refine hs.m fun hs => ?_
 refine hs.o (ok_call (c_spec_CallOk q t (by omega) (by omega)) (args_cons (.t rfl) (args_cons (.t rfl) args_nil))) fun hs => ?_
 refine hs.o .nt fun hs => nn ?_
 refine hs.cd (fun hb1 => ?_) fun hb1 => ?_
 ·exfalso; rw [hok] at hb1; cases hb1
  skip
 ·skip
  refine wp_skip <| then_n <| sr ?_
  refine hs.o .la fun hs => ?_
  refine hs.callE [] (c_spec_l31CopyO q h.small) (args_cons .tt args_nil) rfl (by decide) rfl fun u I a w hok15 hs => ?_
  refine hs.alloc rfl ty118 zc118 fun b7 I a w hs => ?_
  refine hs.sb 3 fun hs => ?_
  refine nn <| wp_seq <| sr ?_
  refine hs.o .la fun hs => ?_
  refine hs.o (.c1 (c_spec_WordOk ..)) fun hs => hs.o .nt fun hs => hs.m fun hs => hs.q .F .fp fun hs => ?_
  refine hs.q .F (.lx .ag) fun hs => ?_
  refine hs.q .F .fp fun hs => ?_
  refine hs.q .F (.lx .ag) fun hs => ?_
  refine hs.q .F .ad fun hs => ?_
  refine hs.q .F (ok_nei .ag .ag) fun hs => ?_
  refine hs.o .or fun hs => hs.m fun hs => hs.q .F .fp fun hs => ?_
  refine hs.q .F (.lx .ag) fun hs => ?_
  refine hs.q .F .fp fun hs => ?_
  refine hs.q .F (.lx .ag) fun hs => ?_
  refine hs.q .F (ok_nei .ag .ag) fun hs => ?_
  refine hs.o .or fun hs => hs.m fun hs => hs.q .F .fp fun hs => ?_
  refine hs.q .F (.lx .ag) fun hs => ?_
  refine hs.q .F .fp fun hs => ?_
  refine hs.q .F (.lx .ag) fun hs => ?_
  refine hs.q .F (.cl (c_spec_l31Has ..)) fun hs => ?_
  refine hs.q .F (.ntx .ag) fun hs => ?_
  refine hs.o .or fun hs => hs.m fun hs => hs.q .F .fp fun hs => ?_
  refine hs.q .F (.lx .ag) fun hs => ?_
  refine hs.q .F (ok_gtr .ag .c) fun hs => ?_
  refine hs.o .or fun hs => hs.m fun hs => hs.q .F .fp fun hs => ?_
  refine hs.q .F (.lx .ag) fun hs => ?_
  refine hs.o .or fun hs => hs.m fun hs => hs.q .F .mv fun hs => hs.q .F .fp fun hs => ?_
  refine hs.q .F (.lx .ag) fun hs => ?_
  refine hs.q .F (ok_leq .ag .ag) fun hs => ?_
  refine hs.o .or fun hs => nn ?_
  refine hs.cd (fun hb2 => ?_) fun hb2 => ?_
  ·rw [hear_call_test q m t her.1] at hb2; replace hb2 := nt hb2
   refine wp_seq ?_
   obtain ⟨I, hs, hf⟩ := hs.freezeRow 1 rfl
   have hs := hs.updBox (q := 11) 3 rfl rfl hf
   obtain ⟨I, hs, hf⟩ := hs.freezeRow 2 rfl
   have hs := hs.updBox (q := 12) 3 rfl rfl hf
   refine St.region <| hs.o (.ls 3) fun hs => ?_
   refine hs.sb 0 fun hs => ?_
   refine nn <| wp_ret <| then_r ?_
   refine hs.ret rfl (.cons (.s 0 ty118 rfl rfl (by first | rfl | assumption)) ResL.nil) ?_
   exact (by unfold callHear; rw [hb2]; rfl)
  ·rw [hear_call_test q m t her.1] at hb2; replace hb2 := nf hb2; have hcc := hb2; simp only [Bool.and_eq_true, decide_eq_true_eq] at hcc; obtain ⟨⟨⟨⟨⟨hm, _⟩, _⟩, hkey⟩, hw⟩, hbt⟩ := hcc; have hml := chain_len (wordOk_lists hm).1
   refine wp_skip <| then_n <| wp_seq <| sr <| hs.o .fp fun hs => hs.o .l1 fun hs => hs.o .eqic fun hs => nn ?_
   refine hs.cd (fun hb3 => ?_) fun hb3 => ?_
   ·try simp only [B] at hb3
    refine wp_seq <| sr <| hs.o .fp fun hs => hs.o .l1 fun hs => hs.o .eqic fun hs => hs.m fun hs => hs.q .T .fp fun hs => ?_
    refine hs.q .T .la fun hs => ?_
    refine hs.q .T (.cl (c_spec_StampOk ..)) fun hs => ?_
    refine hs.o .an fun hs => nn ?_
    refine hs.cd (fun hb4 => ?_) fun hb4 => ?_
    ·skip
     refine sr <| hs.o .fp fun hs => ?_
     refine hs.o .la fun hs => ?_
     refine hs.o .fv fun hs => hs.storeS 3 ty115 .tt .tt rfl rfl rfl fun a w hs => nn <| St.region <| hs.m fun hs => hs.o .fv fun hs => ?_
     refine hs.s1 3 fun hs => ?_
     refine nn <| wp_seq ?_
     obtain ⟨I, hs, hf⟩ := hs.freezeRow 1 rfl
     have hs := hs.updBox (q := 11) 3 rfl rfl hf
     obtain ⟨I, hs, hf⟩ := hs.freezeRow 2 rfl
     have hs := hs.updBox (q := 12) 3 rfl rfl hf
     refine St.region <| hs.o (.ls 3) fun hs => ?_
     refine hs.sb 0 fun hs => ?_
     refine nn <| wp_ret <| then_r ?_
     refine hs.ret rfl (.cons (.s 0 ty118 rfl rfl (by first | rfl | assumption)) ResL.nil) ?_
     exact (by unfold callHear; rw [hb2, if_pos rfl, if_pos hb3, if_pos (by simpa using hb4)]; rfl)
    ·skip
     refine wp_skip <| then_n <| wp_seq ?_
     obtain ⟨I, hs, hf⟩ := hs.freezeRow 1 rfl
     have hs := hs.updBox (q := 11) 3 rfl rfl hf
     obtain ⟨I, hs, hf⟩ := hs.freezeRow 2 rfl
     have hs := hs.updBox (q := 12) 3 rfl rfl hf
     refine St.region <| hs.o (.ls 3) fun hs => ?_
     refine hs.sb 0 fun hs => ?_
     refine nn <| wp_ret <| then_r ?_
     refine hs.ret rfl (.cons (.s 0 ty118 rfl rfl (by first | rfl | assumption)) ResL.nil) ?_
     exact (by unfold callHear; rw [hb2, if_pos rfl, if_pos hb3, if_neg (by simpa using hb4)]; rfl)
   ·try simp only [B] at hb3
    refine wp_skip <| then_n <| sr <| hs.o .fp fun hs => hs.o .l1 fun hs => hs.o .fp fun hs => hs.o .l1 fun hs => ?_
    refine hs.o (.bd zc186 (.k (.k Parts.nil))) fun hs => ?_
    refine hs.alloc rfl ty186 zc186 fun b8 I a w hs => ?_
    refine hs.sb 4 fun hs => ?_
    refine nn <| wp_seq <| wp_seq <| hs.dk <| .o .fp <| .o .l1 <| .o .neic <| .o .mv <| .q .F .fp ?_
    refine .q .F (.lx .ag) ?_
    refine .q .F (.mx .ag) ?_
    refine .q .T2 .fp ?_
    refine .q .T2 (.lx .ag) ?_
    refine .q .T2 .ln ?_
    refine .q .T2 (ok_nei .ag .c) ?_
    refine .q .T2 (.mx .ag) ?_
    refine .q .F2 .fp ?_
    refine .q .F2 (.lx .ag) ?_
    refine .q .F2 (ok_idxN (i := 0) un86 ty173 .ag .c (fun hg => by simp at hg; omega)) ?_
    refine .q .F2 (.fx .ag) ?_
    refine .q .F2 (.lx .ag) ?_
    refine .q .F2 .fp ?_
    refine .q .F2 (.lx .ag) ?_
    refine .q .F2 (ok_nei .ag .ag) ?_
    refine .q .T2 (ok_or .ag .c .pc) ?_
    refine .q .F (ok_and .ag .pc .c) ?_
    refine .o .or <| .nil ?_
    intro I a w hs
    refine then_n ?_
    refine hs.cd (fun hb5 => ?_) fun hb5 => ?_
    ·rw [read_test] at hb5; replace hb5 := nt hb5; rw [decide_eq_false_iff_not] at hb5
     refine wp_seq ?_
     obtain ⟨I, hs, hf⟩ := hs.freezeRow 1 rfl
     have hs := hs.updBox (q := 11) 3 rfl rfl hf
     obtain ⟨I, hs, hf⟩ := hs.freezeRow 2 rfl
     have hs := hs.updBox (q := 12) 3 rfl rfl hf
     refine St.region <| hs.o (.ls 3) fun hs => ?_
     refine hs.sb 0 fun hs => ?_
     refine nn <| wp_ret <| then_r ?_
     refine hs.ret rfl (.cons (.s 0 ty118 rfl rfl (by first | rfl | assumption)) ResL.nil) ?_
     exact (by unfold callHear readC; rw [hb2, if_pos rfl, if_neg hb3, if_neg hb5]; rfl)
    ·rw [read_test] at hb5; replace hb5 := nf hb5; rw [decide_eq_true_eq] at hb5; have hag := ansOf_good (q := q) hm hb5.2
     refine wp_skip <| then_n ?_
     refine St.cut (σ := Unit) (run 8 104 []) ⟨fun _ => [], fun _ => [Own.box b6 118 [AV.val (.int .i64 0), AV.val (.int .i64 0), AV.val (.int .i64 0), AV.rows 1 [], AV.val (.int .i64 0), AV.rows 3 [], AV.val (.int .i64 0), AV.val (.int .i64 0), AV.val (.bool false), AV.val (.int .i64 0), AV.val (.int .i64 0), AV.rows 9 [], AV.rows 3 []], Own.row u.1 186 9 (q.got.map Answer.cells), Own.row u.2 165 3 (q.needs.map Dep.cells), Own.box b7 118 [AV.int q.client, AV.int q.num, AV.int q.kind, intsAV q.keys, AV.int q.val, depsAV q.ctx, AV.int q.begin_, AV.int q.end_, AV.bool q.over, AV.int q.stamp.time, AV.int q.stamp.site, AV.val u.1, AV.val u.2], Own.box b8 186 (ansOf m).cells], fun _ => True⟩ hs ?cutA14 ?cutB14
     case cutA14 =>
      refine sr <| hs.o .fp fun hs => hs.o .l1 fun hs => nn ?_
      refine hs.cd (fun hb6 => ?_) fun hb6 => ?_
      ·have hv1 := (hb5.2 hb6).1
       refine St.region <| hs.o .fp fun hs => hs.o .l1 fun hs => ?_
       refine hs.o (ok_idxN (i := 0) un86 ty173 .tt .c (fun _ => by omega)) fun hs => ?_
       refine hs.o .la fun hs => ?_
       refine hs.o (ok_call (c_spec_l2Copy (elt m.vers 0) (by have := depsOk_len6 (verOk_parts (chain_all (wordOk_lists hm).1 _ (elt_mem (l := m.vers) (k := 0) (by omega)))).2.2; omega)) (args_cons (.t rfl) args_nil)) fun hs => ?_
       refine hs.o .fv fun hs => hs.storeS 4 ty173 .tt .tt rfl rfl rfl fun a w hs => nn ?_
       have hs := hs.pass (H' := [Own.box b6 118 [AV.val (.int .i64 0), AV.val (.int .i64 0), AV.val (.int .i64 0), AV.rows 1 [], AV.val (.int .i64 0), AV.rows 3 [], AV.val (.int .i64 0), AV.val (.int .i64 0), AV.val (.bool false), AV.val (.int .i64 0), AV.val (.int .i64 0), AV.rows 9 [], AV.rows 3 []], Own.row u.1 186 9 (q.got.map Answer.cells), Own.row u.2 165 3 (q.needs.map Dep.cells), Own.box b7 118 [AV.int q.client, AV.int q.num, AV.int q.kind, intsAV q.keys, AV.int q.val, depsAV q.ctx, AV.int q.begin_, AV.int q.end_, AV.bool q.over, AV.int q.stamp.time, AV.int q.stamp.site, AV.val u.1, AV.val u.2], Own.box b8 186 (ansOf m).cells]) (by unfold ansOf; rw [hb6]; rfl)
       exact hs.me () (by trivial)
      ·skip
       refine wp_skip <| then_n ?_
       have hs := hs.pass (H' := [Own.box b6 118 [AV.val (.int .i64 0), AV.val (.int .i64 0), AV.val (.int .i64 0), AV.rows 1 [], AV.val (.int .i64 0), AV.rows 3 [], AV.val (.int .i64 0), AV.val (.int .i64 0), AV.val (.bool false), AV.val (.int .i64 0), AV.val (.int .i64 0), AV.rows 9 [], AV.rows 3 []], Own.row u.1 186 9 (q.got.map Answer.cells), Own.row u.2 165 3 (q.needs.map Dep.cells), Own.box b7 118 [AV.int q.client, AV.int q.num, AV.int q.kind, intsAV q.keys, AV.int q.val, depsAV q.ctx, AV.int q.begin_, AV.int q.end_, AV.bool q.over, AV.int q.stamp.time, AV.int q.stamp.site, AV.val u.1, AV.val u.2], Own.box b8 186 (ansOf m).cells]) (by unfold ansOf; rw [hb6]; rfl)
       exact hs.me () (by trivial)
     case cutB14 =>
      rintro _ I a w hok hs
      refine wp_seq <| sr ?_
      refine hs.o .la fun hs => ?_
      refine hs.o .fp fun hs => hs.o .l1 fun hs => hs.o (.c2 (c_spec_l31Got q m.key)) fun hs => hs.o .lssc fun hs => nn ?_
      refine hs.cd (fun hb7 => ?_) fun hb7 => ?_
      ·try simp only [B] at hb7
       refine wp_seq <| sr <| hs.o .fp fun hs => ?_
       refine hs.o .la fun hs => ?_
       refine hs.o (.bd zc115 Parts.nil) fun hs => ?_
       refine hs.o (ok_eqS [_, _] [_, _] eqt115 rfl rfl .tt .tt) fun hs => nn ?_
       refine hs.cd (fun hb8 => ?_) fun hb8 => ?_
       ·rw [stamp_eq0] at hb8
        refine wp_seq ?_
        obtain ⟨I, hs, hf⟩ := hs.freezeRow 1 rfl
        have hs := hs.updBox (q := 11) 3 rfl rfl hf
        refine St.region <| hs.o (.ls 3) fun hs => hs.o (.ls 4) fun hs => hs.m fun hs => ?_
        refine hs.callM [2] (c_spec_l31First q u.2 (ansOf m) t h.good hag (by omega) (by omega) (by omega)) (args_cons .tt (args_cons .tt (args_cons .tt args_nil))) rfl (by decide) rfl fun I a w hs => ?_
        refine hs.o (.c1 (c_spec_l31Copy _ (CallGood.firstC h hw hbt hb3 hag hkey hb7).small)) fun hs => ?_
        refine hs.sb 0 fun hs => ?_
        refine nn <| wp_ret <| then_r <| then_r ?_
        refine hs.ret rfl (.cons (.s 0 ty118 rfl rfl (by first | rfl | assumption)) ResL.nil) ?_
        exact (by unfold callHear readC; rw [hb2, if_pos rfl, if_neg hb3, if_pos hb5, if_pos hb7, if_pos hb8]; rfl)
       ·rw [stamp_eq0] at hb8
        refine wp_skip <| then_n <| wp_seq ?_
        obtain ⟨I, hs, hf⟩ := hs.freezeRow 1 rfl
        have hs := hs.updBox (q := 11) 3 rfl rfl hf
        obtain ⟨I, hs, hf⟩ := hs.freezeRow 2 rfl
        have hs := hs.updBox (q := 12) 3 rfl rfl hf
        refine St.region <| hs.o (.ls 3) fun hs => ?_
        refine hs.sb 0 fun hs => ?_
        refine nn <| wp_ret <| then_r ?_
        refine hs.ret rfl (.cons (.s 0 ty118 rfl rfl (by first | rfl | assumption)) ResL.nil) ?_
        exact (by unfold callHear readC; rw [hb2, if_pos rfl, if_neg hb3, if_pos hb5, if_pos hb7, if_neg (by rw [hb8]; simp)]; rfl)
      ·try simp only [B] at hb7
       refine wp_skip <| then_n <| wp_seq <| sr <| hs.o .fp fun hs => hs.o .l1 fun hs => nn ?_
       refine hs.cd (fun hb9 => ?_) fun hb9 => ?_
       ·skip
        refine wp_seq ?_
        obtain ⟨I, hs, hf⟩ := hs.freezeRow 2 rfl
        have hs := hs.updBox (q := 12) 3 rfl rfl hf
        refine St.region <| hs.o (.ls 3) fun hs => hs.o (.ls 4) fun hs => hs.m fun hs => ?_
        refine hs.callM [1] (c_spec_l31Second q u.1 (ansOf m) t t h (ansGood_yes hag hb9).2) (args_cons .tt (args_cons .tt (args_cons .tt args_nil))) rfl (by decide) rfl fun I a w hs => ?_
        refine hs.o (.c1 (c_spec_l31Copy _ (CallGood.secondC h hw hbt hb3 hag hb9).small)) fun hs => ?_
        refine hs.sb 0 fun hs => ?_
        refine nn <| wp_ret <| then_r ?_
        refine hs.ret rfl (.cons (.s 0 ty118 rfl rfl (by first | rfl | assumption)) ResL.nil) ?_
        exact (by unfold callHear readC; rw [hb2, if_pos rfl, if_neg hb3, if_pos hb5, if_neg (Int.not_lt.2 hb7), if_pos hb9]; rfl)
       ·skip
        refine wp_skip <| then_n <| wp_seq ?_
        obtain ⟨I, hs, hf⟩ := hs.freezeRow 1 rfl
        have hs := hs.updBox (q := 11) 3 rfl rfl hf
        obtain ⟨I, hs, hf⟩ := hs.freezeRow 2 rfl
        have hs := hs.updBox (q := 12) 3 rfl rfl hf
        refine St.region <| hs.o (.ls 3) fun hs => ?_
        refine hs.sb 0 fun hs => ?_
        refine nn <| wp_ret ?_
        refine hs.ret rfl (.cons (.s 0 ty118 rfl rfl (by first | rfl | assumption)) ResL.nil) ?_
        exact (by unfold callHear readC; rw [hb2, if_pos rfl, if_neg hb3, if_pos hb5, if_neg (Int.not_lt.2 hb7), if_neg (by rw [hb9]; simp)]; rfl)
theorem c_spec_l42Now (l : List Call) (client : Int) :
    Fn Tryz.prog 62 [callsAV l, AV.int client] (AV.int (nowI l client)) := by
 refine Fn.intro 36 Tryz.func62 rfl Tryz.ntmps62 rfl (by kernel_rfl) (fun W I a hs => ?_)
 have hle := hs.lenleM (t := 0) rfl
 refine sr <| hs.sc fun hs => nn <| wp_seq <| sr <| hs.sc fun hs => nn <| wp_block ?_
 refine St.lo (σ := Nat) (run 32 4 []) ⟨fun k => [(5, AV.int k)], fun k => [], fun k => k ≤ l.length ∧ ∀ i, i < k → nowB client (elt l i) = false⟩ (fun k => l.length - k) 0 hs ?ok1 ?round1
 case ok1 => exact ⟨Nat.zero_le _, fun i hi => by omega⟩
 case round1 =>
  rintro k I a w hok hs
  obtain ⟨hk, hall⟩ := hok
  refine wp_seq <| sr <| hs.m fun hs => hs.m fun hs => ?_
  refine hs.o .ln fun hs => ?_
  refine hs.o .lss fun hs => nn ?_
  refine hs.cd (fun hb1 => ?_) fun hb1 => ?_
  ·try simp only [B] at hb1
   refine wp_skip <| then_n <| wp_seq <| wp_block <| sr <| hs.m fun hs => hs.m fun hs => ?_
   refine hs.o .ix fun hs => ?_
   refine hs.o .fp fun hs => hs.o .l1 fun hs => hs.m fun hs => hs.o .eqi fun hs => hs.m fun hs => hs.q .T .mv fun hs => hs.q .T .mv fun hs => ?_
   refine hs.q .T .ix fun hs => ?_
   refine hs.q .T (.fx .ag) fun hs => ?_
   refine hs.q .T (.lx .ag) fun hs => ?_
   refine hs.q .T (ok_eqi .ag .c) fun hs => ?_
   refine hs.o .an fun hs => hs.m fun hs => hs.q .T .mv fun hs => hs.q .T .mv fun hs => ?_
   refine hs.q .T .ix fun hs => ?_
   refine hs.q .T (.fx .ag) fun hs => ?_
   refine hs.q .T (.lx .ag) fun hs => ?_
   refine hs.q .T (.ntx .ag) fun hs => ?_
   refine hs.o .an fun hs => nn ?_
   refine hs.cd (fun hb2 => ?_) fun hb2 => ?_
   ·change nowB client (elt l k) = true at hb2
    refine sr <| hs.m fun hs => hs.s fun hs => nn <| wp_ret <| block_r <| then_r <| then_r <| block_r <| then_r ?_
    refine hs.rt ?_
    exact ret_int (idx_hit hb1 hall hb2).symm
   ·change nowB client (elt l k) = false at hb2
    refine wp_skip <| block_n <| then_n <| St.region <| hs.m fun hs => ?_
    refine hs.o .ad fun hs => ?_
    refine hs.s fun hs => nn ?_
    exact hs.ag (k + 1) (⟨hb1, fun i h1 => by rcases Nat.lt_succ_iff_lt_or_eq.1 h1 with h | h; exact hall i h; rw [h]; exact hb2⟩)
  ·try simp only [B] at hb1
   refine wp_exit <| then_x <| then_x <| block_hit <| then_n <| sr <| hs.sc fun hs => nn <| wp_ret ?_
   refine hs.rt ?_
   exact ret_int (idx_none (by omega) hall).symm
theorem keysE_1 {e : Ev} (h : ((e.call == 2) && decide (e.a < e.b)) = false) : keysE e = [e.a] := by
  unfold keysE; rw [if_neg]; simpa using h
theorem keysE_2 {e : Ev} (h : ((e.call == 2) && decide (e.a < e.b)) = true) (h2 : ¬ e.b < e.c) : keysE e = [e.a, e.b] := by
  unfold keysE; rw [if_pos (by simpa using h), if_neg h2]
theorem keysE_3 {e : Ev} (h : ((e.call == 2) && decide (e.a < e.b)) = true) (h2 : e.b < e.c) : keysE e = [e.a, e.b, e.c] := by
  unfold keysE; rw [if_pos (by simpa using h), if_pos h2]
def sendK (radio more : List Word) : Nat → List Word
  | 0 => radio
  | k + 1 => sendK radio more k ++ [elt more k]
theorem sendK_eq (radio more : List Word) : ∀ k, k ≤ more.length → sendK radio more k = radio ++ more.take k
  | 0, _ => by simp [sendK]
  | k + 1, h => by
    show sendK radio more k ++ _ = _
    rw [sendK_eq radio more k (by omega), List.append_assoc, ← take_elt (by omega)]
theorem sendW_end {radio more : List Word} {k : Nat} (hr : radio.length ≤ 60) (hk : k ≤ more.length) (hk2 : k ≤ 60 - radio.length) (h : ¬ (k < more.length ∧ (radio ++ more.take k).length < 60)) : radio ++ more.take k = sendW radio more := by
  unfold sendW
  have hl : (more.take k).length = k := by simp; omega
  rw [List.length_append, hl] at h
  congr 1
  by_cases hm : k < more.length
  · have : k = 60 - radio.length := by omega
    rw [this]
  · have : k = more.length := by omega
    rw [this, List.take_length, List.take_of_length_le (by omega)]
theorem c_spec_l42Keys (e : Ev) :
    Fn Tryz.prog 109 [e.av] (intsAV (keysE e)) := by
 refine Fn.intro 33 Tryz.func109 rfl Tryz.ntmps109 rfl (by kernel_rfl) (fun W I a hs => ?_)
 refine sr <| hs.o .bp fun hs => hs.sc fun hs => nn <| sr <| hs.o .fp fun hs => hs.o .l1 fun hs => ?_
 refine hs.litO (lxs := [[AV.int e.a]]) rfl un54 ty3 rfl zo3 rfl rfl rfl (Parts.c rfl rfl .tt (by first | exact one_val rfl | exact one_rows | exact one_ptr | exact one_fn) Parts.nil) rfl rfl (by simp only [List.forall_mem_cons]; exact ⟨rfl, fun _ h => by simp at h⟩) rfl fun b6 I a w hs => ?_
 refine hs.s fun hs => nn <| wp_seq <| sr <| hs.o .fp fun hs => hs.o .l1 fun hs => hs.o .eqic fun hs => hs.m fun hs => hs.q .T .fp fun hs => ?_
 refine hs.q .T (.lx .ag) fun hs => ?_
 refine hs.q .T .fp fun hs => ?_
 refine hs.q .T (.lx .ag) fun hs => ?_
 refine hs.q .T (ok_gtr .ag .ag) fun hs => ?_
 refine hs.o .an fun hs => nn ?_
 refine hs.cd (fun hb1 => ?_) fun hb1 => ?_
 ·skip
  refine sr <| hs.m fun hs => hs.o .fp fun hs => hs.o .l1 fun hs => ?_
  refine hs.o (.li [[AV.int e.b]] zo3 (.v .nil)) fun hs => ?_
  refine hs.append 0 rfl un54 ty3 rfl .tt .r rfl (by simp) fun v21 a w hs => ?_
  refine hs.s fun hs => nn <| sr <| hs.o .fp fun hs => hs.o .l1 fun hs => hs.o .fp fun hs => hs.o .l1 fun hs => hs.o .gtr fun hs => nn ?_
  refine hs.cd (fun hb2 => ?_) fun hb2 => ?_
  ·try simp only [B] at hb2
   refine St.region <| hs.m fun hs => hs.o .fp fun hs => hs.o .l1 fun hs => ?_
   refine hs.o (.li [[AV.int e.c]] zo3 (.v .nil)) fun hs => ?_
   refine hs.append 0 rfl un54 ty3 rfl .tt .r rfl (by simp) fun v31 a w hs => ?_
   refine hs.s fun hs => nn <| sr <| hs.m fun hs => hs.s fun hs => nn <| wp_ret ?_
   obtain ⟨I, hs, hf⟩ := hs.freezeRow 0 rfl
   have hs := hs.upd (t := 2) rfl hf; clear hf
   refine hs.rt ?_
   exact (by rw [keysE_3 hb1 hb2]; rfl)
  ·try simp only [B] at hb2
   refine wp_skip <| then_n <| sr <| hs.m fun hs => hs.s fun hs => nn <| wp_ret ?_
   obtain ⟨I, hs, hf⟩ := hs.freezeRow 0 rfl
   have hs := hs.upd (t := 2) rfl hf; clear hf
   refine hs.rt ?_
   exact (by rw [keysE_2 hb1 (by simpa using hb2)]; rfl)
 ·skip
  refine wp_skip <| then_n <| sr <| hs.m fun hs => hs.s fun hs => nn <| wp_ret ?_
  obtain ⟨I, hs, hf⟩ := hs.freezeRow 0 rfl
  have hs := hs.upd (t := 2) rfl hf; clear hf
  refine hs.rt ?_
  exact (by rw [keysE_1 hb1]; rfl)
set_option maxHeartbeats 4000000 in
theorem c_spec_l42Send (v : Value) (radio more : List Word) (hr : radio.length ≤ 60) :
    FnM Tryz.prog 91 [AV.val v, wordsAV more] [Own.row v 135 15 (radio.map Word.cells)] [] (wordsAV (sendW radio more)) := by
 refine FnE.intro 25 Tryz.func91 rfl Tryz.ntmps91 rfl (by kernel_rfl) (fun W I a hs => ?_)
 have hle := hs.lenleM (t := 1) rfl
 refine sr <| hs.sc fun hs => nn <| wp_seq <| sr <| hs.sc fun hs => nn <| wp_block ?_
 refine St.lo (σ := Nat × Value) (0 :: (run 19 5 [])) ⟨fun ⟨k, u⟩ => [(5, AV.int k), (0, AV.val u)], fun ⟨k, u⟩ => [Own.row u 135 15 ((sendK radio more k).map Word.cells)], fun ⟨k, u⟩ => k ≤ more.length ∧ k ≤ 60 - radio.length⟩ (fun ⟨k, u⟩ => more.length - k) (0, v) hs ?ok1 ?round1
 case ok1 => exact ⟨Nat.zero_le _, Nat.zero_le _⟩
 case round1 =>
  rintro ⟨k, u⟩ I a w hok hs
  obtain ⟨hk, hk2⟩ := hok
  have hlt : (more.take k).length = k := by simp; omega
  have hsk := sendK_eq radio more k hk
  change St _ _ [Own.row u 135 15 ((sendK radio more k).map Word.cells)] _ _ _ at hs
  refine wp_seq <| sr <| hs.m fun hs => hs.m fun hs => ?_
  refine hs.o .ln fun hs => ?_
  refine hs.o .lss fun hs => hs.m fun hs => hs.q .T .mv fun hs => ?_
  refine hs.q .T (ok_lenO 0 un37 .ag rfl) fun hs => ?_
  refine hs.q .T (ok_lss .ag .c) fun hs => ?_
  refine hs.o .an fun hs => nn ?_
  refine hs.cd (fun hb1 => ?_) fun hb1 => ?_
  ·simp only [B] at hb1; rw [List.length_map] at hb1; rw [hsk] at hb1; replace hb1 : k < more.length ∧ (radio ++ more.take k).length < 60 := ⟨hb1.1, by omega⟩
   refine wp_skip <| then_n <| wp_seq <| wp_block <| St.region <| hs.m fun hs => hs.m fun hs => hs.m fun hs => ?_
   refine hs.o ((by first | exact ok_idxN un37 ty135 .tt .tt (fun _ => by exact hb1.1) | exact ok_idxM un37 ty135 .tt .tt (fun _ => by exact hb1.1) | exact ok_idx un37 ty135 .tt .tt (fun _ => by exact hb1.1))) fun hs => ?_
   refine hs.o .la fun hs => ?_
   refine hs.o (.li [(elt more k).cells] zo135 (.u .nil)) fun hs => ?_
   refine hs.append 0 rfl un37 ty135 rfl .tt .r rfl (by rw [hsk]; simp; omega) fun v23 a w hs => ?_
   rw [snocD, show sendK radio more k ++ [elt more k] = sendK radio more (k + 1) from rfl] at hs
   refine hs.s fun hs => wpList_nil <| block_n <| then_n <| St.region <| hs.m fun hs => ?_
   refine hs.o .ad fun hs => ?_
   refine hs.s fun hs => nn ?_
   exact hs.ag (k + 1, v23) (⟨hb1.1, by have := hb1.2; rw [List.length_append, hlt] at this; omega⟩)
  ·replace hb1 : ¬ (k < more.length ∧ (radio ++ more.take k).length < 60) := fun hh => by rw [hsk] at hb1; simp at hb1; simp at hh; omega
   refine wp_exit <| then_x <| then_x <| block_hit <| then_n <| wp_seq ?_
   rw [hsk, sendW_end hr hk hk2 hb1] at hs
   obtain ⟨I, hs, hf⟩ := hs.freezeRow 0 rfl
   have hs := hs.upd (t := 0) rfl hf; clear hf
   refine St.region <| hs.m fun hs => hs.s fun hs => nn <| wp_ret ?_
   refine hs.retE () [] rfl (.cons (.t rfl) .nil) trivial rfl rfl
end Go.Proofs.YtkoebplikhlapaaGreatDoor
