/- Walks: calls of a run. -/
import Derived.Test.YtlppgilifnkapaaGreatCall2
import Derived.Test.YtlppgilifnkapaaGreatMap
set_option linter.unusedVariables false
set_option linter.unusedSimpArgs false
set_option maxRecDepth 100000
namespace Go.Proofs.YtlppgilifnkapaaGreat
open Go Go.RowKit

theorem c_spec_l31Keys (q : Call) :
    Fn Tryz.prog 175 [q.av] (AV.bool (keys2 q)) := by
 refine Fn.intro 57 Tryz.func175 rfl Tryz.ntmps175 rfl (by kernel_rfl) (fun W I a hs => ?_)
 have lens : q.keys.length ≤ 9223372036854775807 ∧ q.got.length ≤ 9223372036854775807 ∧ q.needs.length ≤ 9223372036854775807 := by
    obtain ⟨cs, _, hc⟩ := hs.env 0 _ rfl
    obtain ⟨u1, _, h1, _⟩ := hc.get (i := 3) rfl
    obtain ⟨u2, _, h2, _⟩ := hc.get (i := 11) rfl
    obtain ⟨u3, _, h3, _⟩ := hc.get (i := 12) rfl
    exact ⟨rows_le h1, rows_le h2, rows_le h3⟩
 refine wp_seq <| St.region <| hs.o (ok_boxP .tt) fun hs => hs.sc fun hs => wpList_nil <| then_n <| wp_seq <| wp_seq <| St.region <| hs.o (ok_fieldP fd70_3 rfl .tt) fun hs => hs.o (ok_load1 ty64 .tt) fun hs => ?_
 refine hs.o ((by first | exact ok_lenM un64 .tt | exact ok_len un64 .tt | exact ok_lenV un64 .tt)) fun hs => ?_
 refine hs.o (ok_lss .tt .c) fun hs => hs.m fun hs => hs.q .F (ok_fieldP fd70_3 rfl .tt) fun hs => hs.q .F (ok_load1 ty64 .ag) fun hs => ?_
 refine hs.q .F ((by first | exact ok_lenM un64 .ag | exact ok_len un64 .ag | exact ok_lenV un64 .ag)) fun hs => ?_
 refine hs.q .F (ok_gtr .ag .c) fun hs => ?_
 refine hs.o (ok_or .tt .c .pc) fun hs => hs.m fun hs => hs.q .F (ok_fieldP fd70_2 rfl .tt) fun hs => hs.q .F (ok_load1 ty3 .ag) fun hs => ?_
 refine hs.q .F (ok_eqi .ag .c) fun hs => ?_
 refine hs.q .F (ok_move .ag) fun hs => ?_
 refine hs.q .T2 (ok_fieldP fd70_3 rfl .tt) fun hs => hs.q .T2 (ok_load1 ty64 .ag) fun hs => ?_
 refine hs.q .T2 ((by first | exact ok_lenM un64 .ag | exact ok_len un64 .ag | exact ok_lenV un64 .ag)) fun hs => ?_
 refine hs.q .T2 (ok_nei .ag .c) fun hs => ?_
 refine hs.q .F (ok_and .ag .pc .c) fun hs => ?_
 refine hs.o (ok_or .tt .c .pc) fun hs => wpList_nil <| then_n ?_
 refine hs.cond .tt (fun hb1 => ?_) (fun hb1 => ?_)
 ·skip
  refine wp_seq <| St.region <| hs.sc fun hs => wpList_nil <| then_n <| wp_ret <| then_r <| hs.ret rfl (.cons (.t rfl) ResL.nil) ?_
  exact ret_bool (by unfold keys2; rw [hb1]; rfl)
 ·skip
  refine wp_skip <| then_n <| wp_seq <| wp_seq <| St.region <| hs.sc fun hs => wpList_nil <| then_n <| wp_block ?_
  refine St.loopS (σ := Nat) (2 :: 3 :: 25 :: 26 :: 27 :: 28 :: 29 :: 30 :: 31 :: 32 :: 33 :: 34 :: 35 :: 36 :: 37 :: 38 :: 39 :: 40 :: 41 :: 42 :: 43 :: 44 :: 45 :: 46 :: 47 :: 48 :: 49 :: 50 :: 51 :: 52 :: 53 :: 54 :: 55 :: 56 :: []) ⟨fun k => [(3, AV.int k)], fun k => [], fun k => k ≤ q.keys.length ∧ ∀ i, i < k → (linkB keyB ltI q.keys) i = true⟩ (fun k => q.keys.length - k) 0 hs rfl ?ok1 ?env1 ?round1
  case ok1 => exact ⟨Nat.zero_le _, fun i hi => by omega⟩
  case env1 => exact (Env.le_consE rfl (by rfl) Env.le_nil)
  case round1 =>
   rintro k I a w hok hs
   obtain ⟨hk_k, hall⟩ := hok
   refine wp_seq <| wp_seq <| St.region <| hs.m fun hs => hs.o (ok_fieldP fd70_3 rfl .tt) fun hs => hs.o (ok_load1 ty64 .tt) fun hs => ?_
   refine hs.o ((by first | exact ok_lenM un64 .tt | exact ok_len un64 .tt | exact ok_lenV un64 .tt)) fun hs => ?_
   refine hs.o (ok_lss .tt .tt) fun hs => wpList_nil <| then_n ?_
   refine hs.cond .tt (fun hb2 => ?_) (fun hb2 => ?_)
   ·try simp only [B] at hb2
    refine wp_skip <| then_n <| wp_seq <| wp_block <| wp_seq <| hs.dk <| .o (ok_fieldP fd70_3 rfl .tt) <| .o (ok_load1 ty64 .tt) <| .o (ok_move .tt) ?_
    refine .o ((by first | exact ok_idxN un64 ty3 .tt .tt (fun _ => by exact hb2) | exact ok_idxM un64 ty3 .tt .tt (fun _ => by exact hb2) | exact ok_idx un64 ty3 .tt .tt (fun _ => by exact hb2))) ?_
    refine .o (ok_load1 ty3 .tt) <| .o (ok_call (c_spec_l2Key ..) (args_cons .tt args_nil)) <| .o (ok_not .tt) <| .o (ok_move .tt) <| .q .F (ok_move .tt) <| .q .F (ok_gtr .ag .c) ?_
    refine .q .F (ok_move .ag) ?_
    refine .q .T2 (ok_fieldP fd70_3 rfl .tt) <| .q .T2 (ok_load1 ty64 .ag) ?_
    refine .q .T2 (ok_move .tt) ?_
    refine .q .T2 (ok_sub .ag .c (fun hg => by simp at hg; omega)) ?_
    refine .q .T2 ((by first | exact ok_idxN un64 ty3 .ag .ag (fun hg => by simp at hg; omega) | exact ok_idxM un64 ty3 .ag .ag (fun hg => by simp at hg; omega) | exact ok_idx un64 ty3 .ag .ag (fun hg => by simp at hg; omega))) ?_
    refine .q .T2 (ok_load1 ty3 .ag) ?_
    refine .q .T2 (ok_fieldP fd70_3 rfl .tt) <| .q .T2 (ok_load1 ty64 .ag) ?_
    refine .q .T2 (ok_move .tt) ?_
    refine .q .T2 ((by first | exact ok_idxN un64 ty3 .ag .ag (fun hg => by simp at hg; omega) | exact ok_idxM un64 ty3 .ag .ag (fun hg => by simp at hg; omega) | exact ok_idx un64 ty3 .ag .ag (fun hg => by simp at hg; omega))) ?_
    refine .q .T2 (ok_load1 ty3 .ag) ?_
    refine .q .T2 (ok_geq .ag .ag) ?_
    refine .q .F (ok_and .ag .pc .c) ?_
    refine .o (ok_or .tt .c .pc) <| RunK.nil ?_
    intro I a w hs
    refine then_n ?_
    refine hs.cond .tt (fun hb3 => ?_) (fun hb3 => ?_)
    ·rw [keys_test2] at hb3; replace hb3 := nt hb3
     refine wp_seq <| St.region <| hs.sc fun hs => wpList_nil <| then_n <| wp_ret <| block_r <| then_r <| then_r <| block_r <| then_r <| hs.ret rfl (.cons (.t rfl) ResL.nil) ?_
     exact ret_bool (by unfold keys2 keysUp; rw [allN_false (f := linkB keyB ltI q.keys) hb2 hb3]; simp)
    ·rw [keys_test2] at hb3; replace hb3 := nf hb3
     refine wp_skip <| block_n <| then_n <| St.region <| hs.m fun hs => ?_
     refine hs.o (ok_add .tt .c (fun _ => by omega)) fun hs => ?_
     refine hs.s fun hs => wpList_nil <| then_n ?_
     refine hs.again (k + 1) ?mu1 ?ok1001 (by rfl) ?env1001 (by repeat (first | exact Env.le_rfl | refine Env.le_push rfl ?_))
     case mu1 => omega
     case ok1001 => exact ⟨by omega, allN_next hall hb3⟩
     case env1001 => exact (Env.le_consE rfl (by first | rfl | (congr 1; done)) Env.le_nil)
   ·try simp only [B] at hb2
    refine wp_exit <| then_x <| then_x <| block_hit <| then_n <| wp_seq <| St.region <| hs.sc fun hs => wpList_nil <| then_n <| wp_ret <| hs.ret rfl (.cons (.t rfl) ResL.nil) ?_
    exact ret_bool (by unfold keys2 keysUp; rw [hb1, allN_true hall (by omega)]; rfl)

set_option maxHeartbeats 4000000 in
theorem c_spec_l31Answer (x : Answer) :
    Fn Tryz.prog 176 [x.av] (AV.bool (ansGood2 x)) := by
 refine Fn.intro 55 Tryz.func176 rfl Tryz.ntmps176 rfl (by kernel_rfl) (fun W I a hs => ?_)
 refine wp_seq <| St.region <| hs.o (ok_boxP .tt) fun hs => hs.sc fun hs => wpList_nil <| then_n <| wp_seq <| wp_seq <| St.region <| hs.o (ok_fieldP fd140_1 rfl .tt) fun hs => hs.o (ok_load1 ty4 .tt) fun hs => hs.o (ok_not .tt) fun hs => wpList_nil <| then_n ?_
 refine hs.cond .tt (fun hb1 => ?_) (fun hb1 => ?_)
 ·try simp only [B] at hb1
  refine wp_seq <| St.region <| hs.o (ok_fieldP fd140_2 rfl .tt) fun hs => ?_
  refine hs.o ((by first | exact ok_loadA ty94 .tt rfl | exact ok_loadS ty94 .tt rfl)) fun hs => ?_
  refine hs.alloc rfl ty94 zc94 fun b3 I a w hs => ?_
  refine hs.storeB 0 ty94 .tt .tt rfl (by first | rfl | assumption) rfl fun a w hs => ?_
  obtain ⟨I, hs, hf⟩ := hs.freezeBox 0 rfl
  have hs := hs.upd (t := 3) rfl hf; clear hf
  refine wpList_nil <| then_n <| wp_seq <| St.region <| hs.o (ok_fieldP fd140_0 rfl .tt) fun hs => hs.o (ok_load1 ty3 .tt) fun hs => hs.o (ok_call (c_spec_l2Key ..) (args_cons .tt args_nil)) fun hs => hs.m fun hs => hs.q .T (ok_fieldP fd94_0 rfl .tt) fun hs => hs.q .T (ok_load1 ty3 .ag) fun hs => ?_
  refine hs.q .T (ok_eqi .ag .c) fun hs => ?_
  refine hs.o (ok_and .tt .pc .c) fun hs => hs.m fun hs => hs.q .T (ok_fieldP fd94_2 rfl .tt) fun hs => hs.q .T (ok_load1 ty3 .ag) fun hs => ?_
  refine hs.q .T (ok_eqi .ag .c) fun hs => ?_
  refine hs.o (ok_and .tt .pc .c) fun hs => hs.m fun hs => hs.q .T (ok_fieldP fd94_3 rfl .tt) fun hs => hs.q .T (ok_load1 ty3 .ag) fun hs => ?_
  refine hs.q .T (ok_eqi .ag .c) fun hs => ?_
  refine hs.o (ok_and .tt .pc .c) fun hs => hs.m fun hs => hs.q .T (ok_fieldP fd94_4 rfl .tt) fun hs => hs.q .T (ok_load1 ty3 .ag) fun hs => ?_
  refine hs.q .T (ok_eqi .ag .c) fun hs => ?_
  refine hs.o (ok_and .tt .pc .c) fun hs => hs.m fun hs => hs.q .T (ok_fieldP fd94_1 rfl .tt) fun hs => ?_
  refine hs.q .T ((by first | exact ok_loadA ty67 .ag rfl | exact ok_loadS ty67 .ag rfl)) fun hs => ?_
  refine hs.q .T (ok_build (l0 := [AV.val (.int .i64 0), AV.val (.int .i64 0)]) ty67 fk67 zc67 rfl Parts.nil) fun hs => hs.q .T (ok_eqS [_, _] [_, _] eqt67 rfl rfl .ag .ag) fun hs => ?_
  refine hs.o (ok_and .tt .pc .c) fun hs => hs.m fun hs => hs.q .T (ok_fieldP fd94_5 rfl .tt) fun hs => hs.q .T (ok_load1 ty65 .ag) fun hs => ?_
  refine hs.q .T ((by first | exact ok_lenM un65 .ag | exact ok_len un65 .ag | exact ok_lenV un65 .ag)) fun hs => ?_
  refine hs.q .T (ok_eqi .ag .c) fun hs => ?_
  refine hs.o (ok_and .tt .pc .c) fun hs => hs.s fun hs => wpList_nil <| then_n <| wp_ret <| then_r <| hs.ret rfl (.cons (.t rfl) ResL.nil) ?_
  exact ret_bool (by rw [← good2_test x hb1, ← stamp_eq0])
 ·try simp only [B] at hb1
  refine wp_skip <| then_n <| wp_seq <| St.region <| hs.o (ok_fieldP fd140_2 rfl .tt) fun hs => ?_
  refine hs.o ((by first | exact ok_loadA ty94 .tt rfl | exact ok_loadS ty94 .tt rfl)) fun hs => ?_
  refine hs.o (ok_call (c_spec_VerOk ..) (args_cons .tt args_nil)) fun hs => hs.m fun hs => hs.q .T (ok_fieldP fd140_2 rfl .tt) fun hs => hs.q .T (ok_fieldP fd94_0 rfl .ag) fun hs => ?_
  refine hs.q .T (ok_load1 ty3 .ag) fun hs => ?_
  refine hs.q .T (ok_fieldP fd140_0 rfl .tt) fun hs => hs.q .T (ok_load1 ty3 .ag) fun hs => ?_
  refine hs.q .T (ok_eqi .ag .ag) fun hs => ?_
  refine hs.o (ok_and .tt .pc .c) fun hs => hs.s fun hs => wpList_nil <| then_n <| wp_ret <| hs.ret rfl (.cons (.t rfl) ResL.nil) ?_
  exact ret_bool (by unfold ansGood2; rw [hb1]; rfl)


theorem specHead_begin {q : Call} {time : Int} (h : specHead q time = true) : 1 ≤ q.begin_ ∧ q.begin_ ≤ time ∧ q.needs.length ≤ 6 := by
  simp only [specHead, Bool.not_eq_true', Bool.or_eq_false_iff] at h
  have h1 := h.2
  have h2 := h.1.2
  simp at h2
  have := depsOk_len6 h2
  simp [inB] at h1; omega
theorem full_test (q : Call) : (decide (0 < (q.needs.length : Int)) && decide ((q.got.length : Int) < q.keys.length)) = !specFull q := by simp [specFull]

set_option maxHeartbeats 4000000 in
theorem c_spec_CallOk (q : Call) (time : Int) (ht : time ≤ 4611686018427387904) (hgl : q.got.length ≤ 1048576) :
    Fn Tryz.prog 102 [q.av, AV.int time] (AV.bool (callOk q time)) := by
 refine Fn.intro 240 Tryz.func102 rfl Tryz.ntmps102 rfl (by kernel_rfl) (fun W I a hs => ?_)
 have lens : q.keys.length ≤ 9223372036854775807 ∧ q.got.length ≤ 9223372036854775807 ∧ q.needs.length ≤ 9223372036854775807 := by
    obtain ⟨cs, _, hc⟩ := hs.env 0 _ rfl
    obtain ⟨u1, _, h1, _⟩ := hc.get (i := 3) rfl
    obtain ⟨u2, _, h2, _⟩ := hc.get (i := 11) rfl
    obtain ⟨u3, _, h3, _⟩ := hc.get (i := 12) rfl
    exact ⟨rows_le h1, rows_le h2, rows_le h3⟩
 refine wp_seq <| St.region <| hs.o (ok_boxP .tt) fun hs => hs.sc fun hs => wpList_nil <| then_n <| wp_seq <| wp_seq <| St.region <| hs.o (ok_fieldP fd70_0 rfl .tt) fun hs => hs.o (ok_load1 ty3 .tt) fun hs => hs.o (ok_call (c_spec_l6In ..) (args_cons .tt (args_cons .c (args_cons .c args_nil)))) fun hs => hs.o (ok_not .tt) fun hs => hs.m fun hs => hs.q .F (ok_fieldP fd70_1 rfl .tt) fun hs => hs.q .F (ok_load1 ty3 .ag) fun hs => ?_
 refine hs.q .F (ok_call (c_spec_l6In ..) (args_cons .ag (args_cons .c (args_cons .c args_nil)))) fun hs => ?_
 refine hs.q .F (ok_not .ag) fun hs => ?_
 refine hs.o (ok_or .tt .c .pc) fun hs => hs.m fun hs => hs.q .F (ok_fieldP fd70_2 rfl .tt) fun hs => hs.q .F (ok_load1 ty3 .ag) fun hs => ?_
 refine hs.q .F (ok_call (c_spec_l6In ..) (args_cons .ag (args_cons .c (args_cons .c args_nil)))) fun hs => ?_
 refine hs.q .F (ok_not .ag) fun hs => ?_
 refine hs.o (ok_or .tt .c .pc) fun hs => hs.m fun hs => ?_
 refine hs.q .F ((by first | exact ok_loadA ty70 .tt rfl | exact ok_loadS ty70 .tt rfl)) fun hs => ?_
 refine hs.q .F (ok_call (c_spec_l31Keys ..) (args_cons .ag args_nil)) fun hs => ?_
 refine hs.q .F (ok_not .ag) fun hs => ?_
 refine hs.o (ok_or .tt .c .pc) fun hs => hs.m fun hs => hs.q .F (ok_fieldP fd70_4 rfl .tt) fun hs => hs.q .F (ok_load1 ty3 .ag) fun hs => ?_
 refine hs.q .F (ok_call (c_spec_l6In ..) (args_cons .ag (args_cons .c (args_cons .c args_nil)))) fun hs => ?_
 refine hs.q .F (ok_not .ag) fun hs => ?_
 refine hs.o (ok_or .tt .c .pc) fun hs => hs.m fun hs => hs.q .F (ok_fieldP fd70_5 rfl .tt) fun hs => hs.q .F (ok_load1 ty65 .ag) fun hs => ?_
 refine hs.q .F (ok_call (c_spec_DepsOk ..) (args_cons .ag args_nil)) fun hs => ?_
 refine hs.q .F (ok_not .ag) fun hs => ?_
 refine hs.o (ok_or .tt .c .pc) fun hs => hs.m fun hs => hs.q .F (ok_fieldP fd70_11 rfl .tt) fun hs => hs.q .F (ok_load1 ty65 .ag) fun hs => ?_
 refine hs.q .F (ok_call (c_spec_DepsOk ..) (args_cons .ag args_nil)) fun hs => ?_
 refine hs.q .F (ok_not .ag) fun hs => ?_
 refine hs.o (ok_or .tt .c .pc) fun hs => hs.m fun hs => hs.q .F (ok_fieldP fd70_6 rfl .tt) fun hs => hs.q .F (ok_load1 ty3 .ag) fun hs => ?_
 refine hs.q .F (ok_move .tt) fun hs => hs.q .F (ok_call (c_spec_l6In ..) (args_cons .ag (args_cons .c (args_cons .ag args_nil)))) fun hs => ?_
 refine hs.q .F (ok_not .ag) fun hs => ?_
 refine hs.o (ok_or .tt .c .pc) fun hs => wpList_nil <| then_n ?_
 refine hs.cond .tt (fun hb1 => ?_) (fun hb1 => ?_)
 ·replace hb1 : specHead q time = false := by unfold specHead; rw [hb1]; rfl
  refine wp_seq <| St.region <| hs.sc fun hs => wpList_nil <| then_n <| wp_ret <| then_r <| hs.ret rfl (.cons (.t rfl) ResL.nil) ?_
  exact ret_bool (by rw [callOk_spec]; rw [hb1]; rfl)
 ·replace hb1 : specHead q time = true := by unfold specHead; rw [hb1]; rfl
  refine wp_skip <| then_n <| wp_seq <| wp_seq <| St.region <| hs.o (ok_fieldP fd70_2 rfl .tt) fun hs => hs.o (ok_load1 ty3 .tt) fun hs => hs.o (ok_eqi .tt .c) fun hs => hs.m fun hs => hs.q .T (ok_fieldP fd70_10 rfl .tt) fun hs => hs.q .T (ok_load1 ty68 .ag) fun hs => ?_
  refine hs.q .T ((by first | exact ok_lenM un68 .ag | exact ok_len un68 .ag | exact ok_lenV un68 .ag)) fun hs => ?_
  refine hs.q .T (ok_fieldP fd70_11 rfl .tt) fun hs => hs.q .T (ok_load1 ty65 .ag) fun hs => ?_
  refine hs.q .T ((by first | exact ok_lenM un65 .ag | exact ok_len un65 .ag | exact ok_lenV un65 .ag)) fun hs => ?_
  refine hs.q .T (ok_add .ag .ag (fun hg => by have := specHead_begin hb1; omega)) fun hs => ?_
  refine hs.q .T (ok_gtr .ag .c) fun hs => ?_
  refine hs.o (ok_and .tt .pc .c) fun hs => hs.m fun hs => hs.q .F (ok_fieldP fd70_2 rfl .tt) fun hs => hs.q .F (ok_load1 ty3 .ag) fun hs => ?_
  refine hs.q .F (ok_eqi .ag .c) fun hs => ?_
  refine hs.q .F (ok_move .ag) fun hs => ?_
  refine hs.q .T2 (ok_fieldP fd70_4 rfl .tt) fun hs => hs.q .T2 (ok_load1 ty3 .ag) fun hs => ?_
  refine hs.q .T2 (ok_gtr .ag .c) fun hs => ?_
  refine hs.q .T2 (ok_move .ag) fun hs => ?_
  refine hs.q .F2 (ok_fieldP fd70_9 rfl .tt) fun hs => ?_
  refine hs.q .F2 ((by first | exact ok_loadA ty67 .ag rfl | exact ok_loadS ty67 .ag rfl)) fun hs => ?_
  refine hs.q .F2 (ok_build (l0 := [AV.val (.int .i64 0), AV.val (.int .i64 0)]) ty67 fk67 zc67 rfl Parts.nil) fun hs => hs.q .F2 (ok_neS [_, _] [_, _] eqt67 rfl rfl .ag .ag) fun hs => ?_
  refine hs.q .T2 (ok_or .ag .c .pc) fun hs => ?_
  refine hs.q .F (ok_and .ag .pc .c) fun hs => ?_
  refine hs.o (ok_or .tt .c .pc) fun hs => hs.m fun hs => hs.q .F (ok_fieldP fd70_9 rfl .tt) fun hs => ?_
  refine hs.q .F ((by first | exact ok_loadA ty67 .ag rfl | exact ok_loadS ty67 .ag rfl)) fun hs => ?_
  refine hs.q .F (ok_call (c_spec_l11Stamp ..) (args_cons .ag args_nil)) fun hs => ?_
  refine hs.q .F (ok_not .ag) fun hs => ?_
  refine hs.o (ok_or .tt .c .pc) fun hs => hs.m fun hs => hs.q .F (ok_fieldP fd70_10 rfl .tt) fun hs => hs.q .F (ok_load1 ty68 .ag) fun hs => ?_
  refine hs.q .F ((by first | exact ok_lenM un68 .ag | exact ok_len un68 .ag | exact ok_lenV un68 .ag)) fun hs => ?_
  refine hs.q .F (ok_fieldP fd70_3 rfl .tt) fun hs => hs.q .F (ok_load1 ty64 .ag) fun hs => ?_
  refine hs.q .F ((by first | exact ok_lenM un64 .ag | exact ok_len un64 .ag | exact ok_lenV un64 .ag)) fun hs => ?_
  refine hs.q .F (ok_gtr .ag .ag) fun hs => ?_
  refine hs.o (ok_or .tt .c .pc) fun hs => wpList_nil <| then_n ?_
  refine hs.cond .tt (fun hb2 => ?_) (fun hb2 => ?_)
  ·rw [stamp_neq0] at hb2; replace hb2 : specMid q = false := by unfold specMid; rw [hb2]; rfl
   refine wp_seq <| St.region <| hs.sc fun hs => wpList_nil <| then_n <| wp_ret <| then_r <| hs.ret rfl (.cons (.t rfl) ResL.nil) ?_
   exact ret_bool (by rw [callOk_spec]; rw [hb1, hb2]; rfl)
  ·rw [stamp_neq0] at hb2; replace hb2 : specMid q = true := by unfold specMid; rw [hb2]; rfl
   refine wp_skip <| then_n <| wp_seq <| wp_seq <| St.region <| hs.sc fun hs => wpList_nil <| then_n <| wp_block ?_
   refine St.loopS (σ := Nat) (4 :: 5 :: 98 :: 99 :: 100 :: 101 :: 102 :: 103 :: 104 :: 105 :: 106 :: 107 :: 108 :: 109 :: 110 :: 111 :: 112 :: 113 :: 114 :: 115 :: 116 :: 117 :: 118 :: 119 :: 120 :: 121 :: 122 :: 123 :: 124 :: 125 :: 126 :: 127 :: 128 :: 129 :: 130 :: 131 :: 132 :: 133 :: 134 :: 135 :: 136 :: 137 :: 138 :: 139 :: 140 :: 141 :: 142 :: 143 :: []) ⟨fun k => [(5, AV.int k)], fun k => [], fun k => k ≤ q.got.length ∧ ∀ i, i < k → (ans2At q) i = true⟩ (fun k => q.got.length - k) 0 hs rfl ?ok1 ?env1 ?round1
   case ok1 => exact ⟨Nat.zero_le _, fun i hi => by omega⟩
   case env1 => exact (Env.le_consE rfl (by rfl) Env.le_nil)
   case round1 =>
    rintro k I a w hok hs
    obtain ⟨hk_k, hall⟩ := hok
    refine wp_seq <| wp_seq <| St.region <| hs.m fun hs => hs.o (ok_fieldP fd70_10 rfl .tt) fun hs => hs.o (ok_load1 ty68 .tt) fun hs => ?_
    refine hs.o ((by first | exact ok_lenM un68 .tt | exact ok_len un68 .tt | exact ok_lenV un68 .tt)) fun hs => ?_
    refine hs.o (ok_lss .tt .tt) fun hs => wpList_nil <| then_n ?_
    refine hs.cond .tt (fun hb3 => ?_) (fun hb3 => ?_)
    ·try simp only [B] at hb3
     refine wp_skip <| then_n <| wp_seq <| wp_block <| wp_seq <| hs.dk <| .o (ok_fieldP fd70_10 rfl .tt) <| .o (ok_load1 ty68 .tt) <| .o (ok_move .tt) ?_
     refine .o ((by first | exact ok_idxN un68 ty140 .tt .tt (fun _ => by exact hb3) | exact ok_idxM un68 ty140 .tt .tt (fun _ => by exact hb3) | exact ok_idx un68 ty140 .tt .tt (fun _ => by exact hb3))) ?_
     refine .o ((by first | exact ok_loadA ty140 .tt rfl | exact ok_loadS ty140 .tt rfl)) ?_
     refine .o (ok_call (c_spec_l31Answer ..) (args_cons .tt args_nil)) <| .o (ok_not .tt) <| .o (ok_move .tt) <| .q .F (ok_fieldP fd70_3 rfl .tt) <| .q .F (ok_load1 ty64 .ag) ?_
     refine .q .F (ok_fieldP fd70_10 rfl .tt) <| .q .F (ok_load1 ty68 .ag) ?_
     refine .q .F (ok_move .tt) ?_
     refine .q .F ((by first | exact ok_idxN un68 ty140 .ag .ag (fun hg => by exact hb3) | exact ok_idxM un68 ty140 .ag .ag (fun hg => by exact hb3) | exact ok_idx un68 ty140 .ag .ag (fun hg => by exact hb3))) ?_
     refine .q .F (ok_fieldP fd140_0 rfl .ag) ?_
     refine .q .F (ok_load1 ty3 .ag) ?_
     refine .q .F (ok_call (c_spec_l31Has ..) (args_cons .ag (args_cons .ag args_nil))) ?_
     refine .q .F (ok_not .ag) ?_
     refine .o (ok_or .tt .c .pc) <| .o (ok_move .tt) <| .q .F (ok_move .tt) <| .q .F (ok_gtr .ag .c) ?_
     refine .q .F (ok_move .ag) ?_
     refine .q .T2 (ok_fieldP fd70_10 rfl .tt) <| .q .T2 (ok_load1 ty68 .ag) ?_
     refine .q .T2 (ok_move .tt) ?_
     refine .q .T2 (ok_sub .ag .c (fun hg => by simp at hg; omega)) ?_
     refine .q .T2 ((by first | exact ok_idxN un68 ty140 .ag .ag (fun hg => by simp at hg; omega) | exact ok_idxM un68 ty140 .ag .ag (fun hg => by simp at hg; omega) | exact ok_idx un68 ty140 .ag .ag (fun hg => by simp at hg; omega))) ?_
     refine .q .T2 (ok_fieldP fd140_0 rfl .ag) ?_
     refine .q .T2 (ok_load1 ty3 .ag) ?_
     refine .q .T2 (ok_fieldP fd70_10 rfl .tt) <| .q .T2 (ok_load1 ty68 .ag) ?_
     refine .q .T2 (ok_move .tt) ?_
     refine .q .T2 ((by first | exact ok_idxN un68 ty140 .ag .ag (fun hg => by exact hb3) | exact ok_idxM un68 ty140 .ag .ag (fun hg => by exact hb3) | exact ok_idx un68 ty140 .ag .ag (fun hg => by exact hb3))) ?_
     refine .q .T2 (ok_fieldP fd140_0 rfl .ag) ?_
     refine .q .T2 (ok_load1 ty3 .ag) ?_
     refine .q .T2 (ok_geq .ag .ag) ?_
     refine .q .F (ok_and .ag .pc .c) ?_
     refine .o (ok_or .tt .c .pc) <| RunK.nil ?_
     intro I a w hs
     refine then_n ?_
     refine hs.cond .tt (fun hb4 => ?_) (fun hb4 => ?_)
     ·rw [ans2_test] at hb4; replace hb4 := nt hb4
      refine wp_seq <| St.region <| hs.sc fun hs => wpList_nil <| then_n <| wp_ret <| block_r <| then_r <| then_r <| block_r <| then_r <| hs.ret rfl (.cons (.t rfl) ResL.nil) ?_
      exact ret_bool (by rw [callOk_spec]; rw [allN_false (f := ans2At q) hb3 hb4]; simp)
     ·rw [ans2_test] at hb4; replace hb4 := nf hb4
      refine wp_skip <| block_n <| then_n <| St.region <| hs.m fun hs => ?_
      refine hs.o (ok_add .tt .c (fun _ => by omega)) fun hs => ?_
      refine hs.s fun hs => wpList_nil <| then_n ?_
      refine hs.again (k + 1) ?mu1 ?ok1001 (by rfl) ?env1001 (by repeat (first | exact Env.le_rfl | refine Env.le_push rfl ?_))
      case mu1 => omega
      case ok1001 => exact ⟨by omega, allN_next hall hb4⟩
      case env1001 => exact (Env.le_consE rfl (by first | rfl | (congr 1; done)) Env.le_nil)
    ·try simp only [B] at hb3
     refine wp_exit <| then_x <| then_x <| block_hit <| then_n <| wp_seq <| wp_seq <| St.region <| hs.o (ok_fieldP fd70_11 rfl .tt) fun hs => hs.o (ok_load1 ty65 .tt) fun hs => ?_
     refine hs.o ((by first | exact ok_lenM un65 .tt | exact ok_len un65 .tt | exact ok_lenV un65 .tt)) fun hs => ?_
     refine hs.o (ok_gtr .tt .c) fun hs => hs.m fun hs => hs.q .T (ok_fieldP fd70_10 rfl .tt) fun hs => hs.q .T (ok_load1 ty68 .ag) fun hs => ?_
     refine hs.q .T ((by first | exact ok_lenM un68 .ag | exact ok_len un68 .ag | exact ok_lenV un68 .ag)) fun hs => ?_
     refine hs.q .T (ok_fieldP fd70_3 rfl .tt) fun hs => hs.q .T (ok_load1 ty64 .ag) fun hs => ?_
     refine hs.q .T ((by first | exact ok_lenM un64 .ag | exact ok_len un64 .ag | exact ok_lenV un64 .ag)) fun hs => ?_
     refine hs.q .T (ok_lss .ag .ag) fun hs => ?_
     refine hs.o (ok_and .tt .pc .c) fun hs => wpList_nil <| then_n ?_
     refine hs.cond .tt (fun hb5 => ?_) (fun hb5 => ?_)
     ·rw [full_test] at hb5; replace hb5 := nt hb5
      refine wp_seq <| St.region <| hs.sc fun hs => wpList_nil <| then_n <| wp_ret <| then_r <| hs.ret rfl (.cons (.t rfl) ResL.nil) ?_
      exact ret_bool (by rw [callOk_spec]; rw [hb5]; simp)
     ·rw [full_test] at hb5; replace hb5 := nf hb5
      refine wp_skip <| then_n <| wp_seq <| wp_seq <| St.region <| hs.sc fun hs => wpList_nil <| then_n <| wp_block ?_
      refine St.loopS (σ := Nat) (4 :: 6 :: 7 :: 157 :: 158 :: 159 :: 160 :: 161 :: 162 :: 163 :: 164 :: 165 :: 166 :: 167 :: 168 :: 169 :: 170 :: 171 :: 172 :: 173 :: 174 :: 175 :: 176 :: 177 :: 178 :: 179 :: 180 :: 181 :: 182 :: 183 :: 184 :: 185 :: 186 :: 187 :: 188 :: 189 :: 190 :: []) ⟨fun k2 => [(6, AV.int k2)], fun k2 => [], fun k2 => k2 ≤ q.needs.length ∧ ∀ i, i < k2 → (need2At q) i = true⟩ (fun k2 => q.needs.length - k2) 0 hs rfl ?ok2 ?env2 ?round2
      case ok2 => exact ⟨Nat.zero_le _, fun i hi => by omega⟩
      case env2 => exact (Env.le_consE rfl (by rfl) Env.le_nil)
      case round2 =>
       rintro k2 I a w hok hs
       obtain ⟨hk_k2, hall2⟩ := hok
       refine wp_seq <| wp_seq <| St.region <| hs.m fun hs => hs.o (ok_fieldP fd70_11 rfl .tt) fun hs => hs.o (ok_load1 ty65 .tt) fun hs => ?_
       refine hs.o ((by first | exact ok_lenM un65 .tt | exact ok_len un65 .tt | exact ok_lenV un65 .tt)) fun hs => ?_
       refine hs.o (ok_lss .tt .tt) fun hs => wpList_nil <| then_n ?_
       refine hs.cond .tt (fun hb6 => ?_) (fun hb6 => ?_)
       ·try simp only [B] at hb6
        refine wp_skip <| then_n <| wp_seq <| wp_block <| wp_seq <| hs.dk ?_
        refine .o ((by first | exact ok_loadA ty70 .tt rfl | exact ok_loadS ty70 .tt rfl)) ?_
        refine .o (ok_fieldP fd70_11 rfl .tt) <| .o (ok_load1 ty65 .tt) <| .o (ok_move .tt) ?_
        refine .o ((by first | exact ok_idxN un65 ty74 .tt .tt (fun _ => by exact hb6) | exact ok_idxM un65 ty74 .tt .tt (fun _ => by exact hb6) | exact ok_idx un65 ty74 .tt .tt (fun _ => by exact hb6))) ?_
        refine .o (ok_fieldP fd74_0 rfl .tt) <| .o (ok_load1 ty3 .tt) <| .o (ok_call (c_spec_l31Got ..) (args_cons .tt (args_cons .tt args_nil))) <| .o (ok_assign .tt) <| RunK.nil ?_
        intro I a w hs
        refine then_n <| wp_seq <| hs.dk <| .o (ok_move .tt) <| .o (ok_lss .tt .c) <| .o (ok_move .tt) <| .q .F (ok_fieldP fd70_10 rfl .tt) <| .q .F (ok_load1 ty68 .ag) ?_
        refine .q .F (ok_move .tt) ?_
        refine .q .F ((by first | exact ok_idxN un68 ty140 .ag .ag (fun hg => by have h0 : 0 ≤ gotI q (elt q.needs k2).key := (by simpa using hg); have := gotI_lt h0; omega) | exact ok_idxM un68 ty140 .ag .ag (fun hg => by have h0 : 0 ≤ gotI q (elt q.needs k2).key := (by simpa using hg); have := gotI_lt h0; omega) | exact ok_idx un68 ty140 .ag .ag (fun hg => by have h0 : 0 ≤ gotI q (elt q.needs k2).key := (by simpa using hg); have := gotI_lt h0; omega))) ?_
        refine .q .F (ok_fieldP fd140_2 rfl .ag) ?_
        refine .q .F (ok_fieldP fd94_1 rfl .ag) ?_
        refine .q .F ((by first | exact ok_loadA ty67 .ag rfl | exact ok_loadS ty67 .ag rfl)) ?_
        refine .q .F (ok_fieldP fd70_11 rfl .tt) <| .q .F (ok_load1 ty65 .ag) ?_
        refine .q .F (ok_move .tt) ?_
        refine .q .F ((by first | exact ok_idxN un65 ty74 .ag .ag (fun hg => by exact hb6) | exact ok_idxM un65 ty74 .ag .ag (fun hg => by exact hb6) | exact ok_idx un65 ty74 .ag .ag (fun hg => by exact hb6))) ?_
        refine .q .F (ok_fieldP fd74_1 rfl .ag) ?_
        refine .q .F ((by first | exact ok_loadA ty67 .ag rfl | exact ok_loadS ty67 .ag rfl)) ?_
        refine .q .F (ok_call (c_spec_StampLess ..) (args_cons .ag (args_cons .ag args_nil))) ?_
        refine .q .F (ok_not .ag) ?_
        refine .o (ok_or .tt .c .pc) <| RunK.nil ?_
        intro I a w hs
        refine then_n ?_
        refine hs.cond .tt (fun hb7 => ?_) (fun hb7 => ?_)
        ·rw [need2_test] at hb7; replace hb7 := nt hb7
         refine wp_seq <| St.region <| hs.sc fun hs => wpList_nil <| then_n <| wp_ret <| block_r <| then_r <| then_r <| block_r <| then_r <| hs.ret rfl (.cons (.t rfl) ResL.nil) ?_
         exact ret_bool (by rw [callOk_spec]; rw [allN_false (f := need2At q) hb6 hb7]; simp)
        ·rw [need2_test] at hb7; replace hb7 := nf hb7
         refine wp_skip <| block_n <| then_n <| St.region <| hs.m fun hs => ?_
         refine hs.o (ok_add .tt .c (fun _ => by omega)) fun hs => ?_
         refine hs.s fun hs => wpList_nil <| then_n ?_
         refine hs.again (k2 + 1) ?mu2 ?ok1002 (by rfl) ?env1002 (by repeat (first | exact Env.le_rfl | refine Env.le_push rfl ?_))
         case mu2 => omega
         case ok1002 => exact ⟨by omega, allN_next hall2 hb7⟩
         case env1002 => exact (Env.le_consE rfl (by first | rfl | (congr 1; done)) Env.le_nil)
       ·try simp only [B] at hb6
        refine wp_exit <| then_x <| then_x <| block_hit <| then_n <| wp_seq <| wp_seq <| St.region <| hs.o (ok_fieldP fd70_7 rfl .tt) fun hs => hs.o (ok_load1 ty3 .tt) fun hs => hs.o (ok_eqi .tt .c) fun hs => wpList_nil <| then_n ?_
        refine hs.cond .tt (fun hb8 => ?_) (fun hb8 => ?_)
        ·try simp only [B] at hb8
         refine wp_seq <| St.region <| hs.o (ok_fieldP fd70_9 rfl .tt) fun hs => ?_
         refine hs.o ((by first | exact ok_loadA ty67 .tt rfl | exact ok_loadS ty67 .tt rfl)) fun hs => ?_
         refine hs.o (ok_build (l0 := [AV.val (.int .i64 0), AV.val (.int .i64 0)]) ty67 fk67 zc67 rfl Parts.nil) fun hs => hs.o (ok_eqS [_, _] [_, _] eqt67 rfl rfl .tt .tt) fun hs => hs.s fun hs => wpList_nil <| then_n <| wp_ret <| then_r <| hs.ret rfl (.cons (.t rfl) ResL.nil) ?_
         exact ret_bool (by rw [callOk_spec]; rw [hb1, hb2, allN_true hall (by omega), hb5, allN_true hall2 (by omega), stamp_eq0]; unfold specEnd; rw [if_pos hb8]; rfl)
        ·try simp only [B] at hb8
         refine wp_skip <| then_n <| wp_seq <| St.region <| hs.o (ok_fieldP fd70_8 rfl .tt) fun hs => hs.o (ok_load1 ty4 .tt) fun hs => hs.o (ok_not .tt) fun hs => hs.m fun hs => hs.q .T (ok_fieldP fd70_7 rfl .tt) fun hs => hs.q .T (ok_load1 ty3 .ag) fun hs => ?_
         refine hs.q .T (ok_fieldP fd70_6 rfl .tt) fun hs => hs.q .T (ok_load1 ty3 .ag) fun hs => ?_
         refine hs.q .T (ok_add .ag .c (fun hg => by have := specHead_begin hb1; omega)) fun hs => ?_
         refine hs.q .T (ok_move .tt) fun hs => hs.q .T (ok_call (c_spec_l6In ..) (args_cons .ag (args_cons .ag (args_cons .ag args_nil)))) fun hs => ?_
         refine hs.o (ok_and .tt .pc .c) fun hs => hs.m fun hs => hs.q .T (ok_fieldP fd70_11 rfl .tt) fun hs => hs.q .T (ok_load1 ty65 .ag) fun hs => ?_
         refine hs.q .T ((by first | exact ok_lenM un65 .ag | exact ok_len un65 .ag | exact ok_lenV un65 .ag)) fun hs => ?_
         refine hs.q .T (ok_eqi .ag .c) fun hs => ?_
         refine hs.o (ok_and .tt .pc .c) fun hs => hs.m fun hs => hs.q .T (ok_fieldP fd70_2 rfl .tt) fun hs => hs.q .T (ok_load1 ty3 .ag) fun hs => ?_
         refine hs.q .T (ok_eqi .ag .c) fun hs => ?_
         refine hs.q .T (ok_move .ag) fun hs => ?_
         refine hs.q .T2 (ok_fieldP fd70_9 rfl .tt) fun hs => ?_
         refine hs.q .T2 ((by first | exact ok_loadA ty67 .ag rfl | exact ok_loadS ty67 .ag rfl)) fun hs => ?_
         refine hs.q .T2 (ok_call (c_spec_StampOk ..) (args_cons .ag args_nil)) fun hs => ?_
         refine hs.q .T (ok_and .ag .pc .c) fun hs => ?_
         refine hs.q .T (ok_move .ag) fun hs => ?_
         refine hs.q .F2 (ok_fieldP fd70_2 rfl .tt) fun hs => hs.q .F2 (ok_load1 ty3 .ag) fun hs => ?_
         refine hs.q .F2 (ok_eqi .ag .c) fun hs => ?_
         refine hs.q .F2 (ok_move .ag) fun hs => ?_
         refine hs.q .T2 (ok_fieldP fd70_10 rfl .tt) fun hs => hs.q .T2 (ok_load1 ty68 .ag) fun hs => ?_
         refine hs.q .T2 ((by first | exact ok_lenM un68 .ag | exact ok_len un68 .ag | exact ok_lenV un68 .ag)) fun hs => ?_
         refine hs.q .T2 (ok_fieldP fd70_3 rfl .tt) fun hs => hs.q .T2 (ok_load1 ty64 .ag) fun hs => ?_
         refine hs.q .T2 ((by first | exact ok_lenM un64 .ag | exact ok_len un64 .ag | exact ok_lenV un64 .ag)) fun hs => ?_
         refine hs.q .T2 (ok_eqi .ag .ag) fun hs => ?_
         refine hs.q .F2 (ok_and .ag .pc .c) fun hs => ?_
         refine hs.q .T (ok_or .ag .c .pc) fun hs => ?_
         refine hs.o (ok_and .tt .pc .c) fun hs => hs.s fun hs => wpList_nil <| then_n <| wp_ret <| hs.ret rfl (.cons (.t rfl) ResL.nil) ?_
         exact ret_bool (by rw [callOk_spec]; rw [hb1, hb2, allN_true hall (by omega), hb5, allN_true hall2 (by omega)]; unfold specEnd; rw [if_neg hb8]; rfl)


theorem mapof197 : MapOf Tryz.prog 197 3 3 (fun x : Int => Lit.int .i64 x) (fun x : Int => Value.int .i64 x) (fun x => .lit (.int .i64 x)) (fun x => -9223372036854775808 ≤ x ∧ x ≤ 9223372036854775807) 0 := mapOf_int un197 un3 un3 fun w => ty3.zero
theorem elt_take {α : Type} [Inhabited α] {l : List α} {j k : Nat} (h : j < k) : elt (l.take k) j = elt l j := by
  unfold elt; simp [List.getD_eq_getElem?_getD, List.getElem?_take, h]
theorem callAt_num {l : List Call} {time : Int} {j : Nat} (h : callAt l time j = true) : (elt l j).num = cntB l (j + 1) (elt l j).client := by
  simp only [callAt, Bool.and_eq_true, beq_iff_eq] at h; exact h.1.2
theorem len20 (n : Nat) : decide ((n : Int) ≤ 20) = decide (n ≤ 20) := by rw [Bool.eq_iff_iff]; simp; omega
theorem len20' {n : Nat} (h : (20 : Int) < n) : decide (n ≤ 20) = false := by simp; omega

set_option maxHeartbeats 4000000 in
theorem c_impl_callsFit (l : List Call) (time : Int) (ht : time ≤ 4611686018427387904) (hl : l.length ≤ 1048576) (hcl : ∀ q ∈ l, i64r q.client) :
    Fn Tryz.prog 116 [callsAV l, AV.int time] (AV.bool (callsOk l time)) := by
 refine Fn.intro 86 Tryz.func116 rfl Tryz.ntmps116 rfl (by kernel_rfl) (fun W I a hs => ?_)
 refine wp_seq <| St.region <| hs.sc fun hs => wpList_nil <| then_n <| wp_seq <| St.region <| hs.makeMap rfl mapof197 fun b10 a w hs => ?_
 rw [show (fun _ : Int => (0 : Int)) = cntB l 0 from (cntB_zero l).symm] at hs
 refine hs.s fun hs => wpList_nil <| then_n <| wp_seq <| wp_seq <| St.region <| hs.m fun hs => ?_
 refine hs.o ((by first | exact ok_lenM un32 .tt | exact ok_len un32 .tt | exact ok_lenV un32 .tt)) fun hs => ?_
 refine hs.mc fun hs => wpList_nil <| then_n <| wp_block ?_
 refine St.loopS (σ := Nat) (4 :: 6 :: 7 :: 9 :: 13 :: 14 :: 15 :: 16 :: 17 :: 18 :: 19 :: 20 :: 21 :: 22 :: 23 :: 24 :: 25 :: 26 :: 27 :: 28 :: 29 :: 30 :: 31 :: 32 :: 33 :: 34 :: 35 :: 36 :: 37 :: 38 :: 39 :: 40 :: 41 :: 42 :: 43 :: 44 :: 45 :: 46 :: 47 :: 48 :: 49 :: 50 :: 51 :: 52 :: 53 :: 54 :: 55 :: 56 :: 57 :: 58 :: 59 :: 60 :: 61 :: 62 :: 63 :: 64 :: 65 :: 66 :: 67 :: 68 :: 69 :: 70 :: 71 :: 72 :: 73 :: 74 :: 75 :: 76 :: 77 :: 78 :: 79 :: 80 :: 81 :: 82 :: []) ⟨fun k => [(13, AV.int k)], fun k => [Own.omap Tryz.prog 3 3 (fun x : Int => Lit.int .i64 x) (fun x : Int => .lit (.int .i64 x)) 0 b10 (k) (cntB l (k))], fun k => k ≤ l.length ∧ ∀ i, i < k → (callAt l time) i = true⟩ (fun k => l.length - k) 0 hs rfl ?ok1 ?env1 ?round1
 case ok1 => exact ⟨Nat.zero_le _, fun i hi => by omega⟩
 case env1 => exact (Env.le_consE rfl (by rfl) Env.le_nil)
 case round1 =>
  rintro k I a w hok hs
  obtain ⟨hk_k, hall⟩ := hok
  refine wp_seq <| St.region <| hs.o (ok_lss .tt .tt) fun hs => wpList_nil <| then_n <| wp_seq ?_
  refine hs.cond .tt (fun hb1 => ?_) (fun hb1 => ?_)
  ·try simp only [B] at hb1
   refine wp_skip <| then_n <| wp_seq <| wp_block <| wp_seq <| St.region <| hs.m fun hs => ?_
   refine hs.o ((by first | exact ok_idxN un32 ty70 .tt .tt (fun _ => by exact hb1) | exact ok_idxM un32 ty70 .tt .tt (fun _ => by exact hb1) | exact ok_idx un32 ty70 .tt .tt (fun _ => by exact hb1))) fun hs => ?_
   refine hs.o ((by first | exact ok_loadA ty70 .tt rfl | exact ok_loadS ty70 .tt rfl)) fun hs => ?_
   refine hs.alloc rfl ty70 zc70 fun b7 I a w hs => hs.s fun hs => ?_
   refine hs.storeB 1 ty70 .tt .tt rfl (by first | rfl | assumption) rfl fun a w hs => ?_
   obtain ⟨I, hs, hf⟩ := hs.freezeBox 1 rfl
   have hs := hs.upd (t := 7) rfl hf; clear hf
   refine wpList_nil <| then_n <| wp_seq <| St.region <| hs.m fun hs => hs.o (ok_fieldP fd70_0 rfl .tt) fun hs => hs.o (ok_load1 ty3 .tt) fun hs => hs.o (ok_lookup 0 mapof197 .tt (int_key un3 .tt (hcl _ (elt_mem hb1))) rfl) fun hs => ?_
   refine hs.o (ok_add .tt .c (fun _ => by have := cntB_le l k (elt l k).client; omega)) fun hs => ?_
   refine hs.mapUpdate 0 mapof197 .tt (int_key un3 .tt (hcl _ (elt_mem hb1))) .tt (by have := cntB_le l k (elt l k).client; omega) (by omega) rfl fun a w hs => ?_
   rw [cntB_upd hb1] at hs
   refine wpList_nil <| then_n <| wp_seq <| wp_seq <| hs.dk ?_
   refine .o ((by first | exact ok_loadA ty70 .tt rfl | exact ok_loadS ty70 .tt rfl)) ?_
   refine .o (ok_move .tt) <| .o (ok_call (c_impl_CallOk _ _ ht) (args_cons .tt (args_cons .tt args_nil))) <| .o (ok_not .tt) <| .o (ok_move .tt) <| .q .F (ok_move .tt) <| .q .F (ok_gtr .ag .c) ?_
   refine .q .F (ok_move .ag) ?_
   refine .q .T2 (ok_fieldP fd70_6 rfl .tt) <| .q .T2 (ok_load1 ty3 .ag) ?_
   refine .q .T2 (ok_move .tt) <| .q .T2 (ok_move .tt) ?_
   refine .q .T2 (ok_sub .ag .c (fun hg => by simp at hg; omega)) ?_
   refine .q .T2 ((by first | exact ok_idxN un32 ty70 .ag .ag (fun hg => by simp at hg; omega) | exact ok_idxM un32 ty70 .ag .ag (fun hg => by simp at hg; omega) | exact ok_idx un32 ty70 .ag .ag (fun hg => by simp at hg; omega))) ?_
   refine .q .T2 (ok_fieldP fd70_6 rfl .ag) ?_
   refine .q .T2 (ok_load1 ty3 .ag) ?_
   refine .q .T2 (ok_leq .ag .ag) ?_
   refine .q .F (ok_and .ag .pc .c) ?_
   refine .o (ok_or .tt .c .pc) <| .o (ok_move .tt) <| .q .F (ok_fieldP fd70_1 rfl .tt) <| .q .F (ok_load1 ty3 .ag) ?_
   refine .q .F (ok_move .tt) <| .q .F (ok_fieldP fd70_0 rfl .tt) <| .q .F (ok_load1 ty3 .ag) ?_
   refine .q .F (ok_lookup 0 mapof197 .ag (int_key un3 .ag (hcl _ (elt_mem hb1))) rfl) ?_
   refine .q .F (ok_nei .ag .ag) ?_
   refine .o (ok_or .tt .c .pc) <| RunK.nil ?_
   intro I a w hs
   refine then_n ?_
   refine hs.cond .tt (fun hb2 => ?_) (fun hb2 => ?_)
   ·rw [step_test2] at hb2; replace hb2 := nt hb2
    refine wp_seq <| St.region <| hs.sc fun hs => wpList_nil <| then_n <| wp_ret <| then_r <| block_r <| then_r <| then_r <| block_r <| then_r <| hs.ret rfl (.cons (.t rfl) ResL.nil) ?_
    exact ret_bool (by unfold callsOk; rw [allN_false (f := callAt l time) hb1 (by unfold callAt; rw [hb2]; rfl)]; rfl)
   ·rw [step_test2] at hb2; replace hb2 := nf hb2
    refine wp_skip <| then_n <| wp_seq <| St.region <| hs.m fun hs => hs.m fun hs => ?_
    refine hs.o (ok_slH un32 ty70 .r .tt (fun _ => by rw [List.length_map]; omega)) fun hs => ?_
    rw [← List.map_take, Int.toNat_natCast] at hs
    have htl : (l.take k).length = k := by simp; omega
    refine hs.o ((by first | exact ok_lenM un32 .tt | exact ok_len un32 .tt | exact ok_lenV un32 .tt)) fun hs => ?_
    refine hs.mc fun hs => wpList_nil <| then_n <| wp_block ?_
    refine St.loopS (σ := Nat) (4 :: 9 :: 55 :: 56 :: 57 :: 58 :: 59 :: 60 :: 61 :: 62 :: 63 :: 64 :: 65 :: 66 :: 67 :: 68 :: 69 :: 70 :: 71 :: 72 :: 73 :: 74 :: 75 :: 76 :: 77 :: 78 :: 79 :: 80 :: 81 :: []) ⟨fun k2 => [(55, AV.int k2)], fun k2 => [Own.omap Tryz.prog 3 3 (fun x : Int => Lit.int .i64 x) (fun x : Int => .lit (.int .i64 x)) 0 b10 (k + 1) (cntB l (k + 1)), Own.gone], fun k2 => k2 ≤ k ∧ ∀ i, i < k2 → (fun j => !clash (elt l j) (elt l k)) i = true⟩ (fun k2 => k - k2) 0 hs rfl ?ok2 ?env2 ?round2
    case ok2 => exact ⟨Nat.zero_le _, fun i hi => by omega⟩
    case env2 => exact (Env.le_consE rfl (by rfl) Env.le_nil)
    case round2 =>
     rintro k2 I a w hok hs
     obtain ⟨hk_k2, hall2⟩ := hok
     refine wp_seq <| St.region <| hs.o (ok_lss .tt .tt) fun hs => wpList_nil <| then_n <| wp_seq ?_
     refine hs.cond .tt (fun hb3 => ?_) (fun hb3 => ?_)
     ·try simp only [B] at hb3
      refine wp_skip <| then_n <| wp_seq <| wp_block <| wp_seq <| St.region ?_
      refine hs.o ((by first | exact ok_idxN un32 ty70 .tt .tt (fun _ => by exact hb3) | exact ok_idxM un32 ty70 .tt .tt (fun _ => by exact hb3) | exact ok_idx un32 ty70 .tt .tt (fun _ => by exact hb3))) fun hs => ?_
      refine hs.o ((by first | exact ok_loadA ty70 .tt rfl | exact ok_loadS ty70 .tt rfl)) fun hs => ?_
      refine hs.alloc rfl ty70 zc70 fun b9 I a w hs => ?_
      refine hs.storeB 2 ty70 .tt .tt rfl (by first | rfl | assumption) rfl fun a w hs => ?_
      obtain ⟨I, hs, hf⟩ := hs.freezeBox 2 rfl
      have hs := hs.upd (t := 9) rfl hf; clear hf
      refine wpList_nil <| then_n <| wp_seq <| St.region <| hs.o (ok_fieldP fd70_0 rfl .tt) fun hs => hs.o (ok_load1 ty3 .tt) fun hs => hs.o (ok_fieldP fd70_0 rfl .tt) fun hs => hs.o (ok_load1 ty3 .tt) fun hs => hs.o (ok_eqi .tt .tt) fun hs => hs.m fun hs => hs.q .T (ok_fieldP fd70_8 rfl .tt) fun hs => hs.q .T (ok_load1 ty4 .ag) fun hs => ?_
      refine hs.q .T (ok_not .ag) fun hs => ?_
      refine hs.o (ok_and .tt .pc .c) fun hs => hs.m fun hs => hs.q .T (ok_fieldP fd70_7 rfl .tt) fun hs => hs.q .T (ok_load1 ty3 .ag) fun hs => ?_
      refine hs.q .T (ok_eqi .ag .c) fun hs => ?_
      refine hs.q .T (ok_move .ag) fun hs => ?_
      refine hs.q .F2 (ok_fieldP fd70_7 rfl .tt) fun hs => hs.q .F2 (ok_load1 ty3 .ag) fun hs => ?_
      refine hs.q .F2 (ok_fieldP fd70_6 rfl .tt) fun hs => hs.q .F2 (ok_load1 ty3 .ag) fun hs => ?_
      refine hs.q .F2 (ok_geq .ag .ag) fun hs => ?_
      refine hs.q .T (ok_or .ag .c .pc) fun hs => ?_
      refine hs.o (ok_and .tt .pc .c) fun hs => wpList_nil <| then_n ?_
      refine hs.cond .tt (fun hb4 => ?_) (fun hb4 => ?_)
      ·change clash (elt (l.take k) k2) (elt l k) = true at hb4; rw [elt_take (by omega)] at hb4
       refine wp_seq <| St.region <| hs.sc fun hs => wpList_nil <| then_n <| wp_ret <| block_r <| then_r <| then_r <| block_r <| block_r <| then_r <| then_r <| block_r <| then_r <| hs.ret rfl (.cons (.t rfl) ResL.nil) ?_
       exact ret_bool (by unfold callsOk; rw [allN_false (f := callAt l time) hb1 (by unfold callAt; rw [allN_false (f := fun j => !clash (elt l j) (elt l k)) (k := k2) (by omega) (by rw [hb4]; rfl)]; simp)]; rfl)
      ·change clash (elt (l.take k) k2) (elt l k) = false at hb4; rw [elt_take (by omega)] at hb4
       refine wp_skip <| block_n <| then_n <| St.region ?_
       refine hs.o (ok_add .tt .c (fun _ => by omega)) fun hs => ?_
       refine hs.m fun hs => wpList_nil <| then_n ?_
       have hs := hs.drop 2
       refine hs.again (k2 + 1) ?mu1 ?ok1001 (by rfl) ?env1001 (by repeat (first | exact Env.le_rfl | refine Env.le_push rfl ?_))
       case mu1 => omega
       case ok1001 => exact ⟨by omega, allN_next hall2 (by rw [hb4]; rfl)⟩
       case env1001 => exact (Env.le_consE rfl (by first | rfl | (congr 1; done)) Env.le_nil)
     ·try simp only [B] at hb3
      refine wp_exit <| then_x <| then_x <| block_hit <| block_n <| then_n <| St.region ?_
      refine hs.o (ok_add .tt .c (fun _ => by omega)) fun hs => ?_
      refine hs.m fun hs => wpList_nil <| then_n ?_
      have hs := hs.drop 1
      refine hs.again (k + 1) ?mu2 ?ok1002 (by rfl) ?env1002 (by repeat (first | exact Env.le_rfl | refine Env.le_push rfl ?_))
      case mu2 => omega
      case ok1002 => exact ⟨by omega, allN_next hall (by unfold callAt; rw [hb2, allN_true hall2 (by omega)]; rfl)⟩
      case env1002 => exact (Env.le_consE rfl (by first | rfl | (congr 1; done)) Env.le_nil)
  ·try simp only [B] at hb1
   refine wp_exit <| then_x <| then_x <| block_hit <| then_n <| wp_seq <| St.region <| hs.m fun hs => ?_
   refine hs.o ((by first | exact ok_lenM un32 .tt | exact ok_len un32 .tt | exact ok_lenV un32 .tt)) fun hs => ?_
   refine hs.o (ok_leq .tt .c) fun hs => hs.s fun hs => wpList_nil <| then_n <| wp_ret <| hs.ret rfl (.cons (.t rfl) ResL.nil) ?_
   exact ret_bool (by unfold callsOk; rw [allN_true hall (by omega), len20]; rfl)

end Go.Proofs.YtlppgilifnkapaaGreat
