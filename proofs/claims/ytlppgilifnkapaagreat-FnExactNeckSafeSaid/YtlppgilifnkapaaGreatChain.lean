/- Walks: versions, version sets, messages. -/
import Derived.Test.YtlppgilifnkapaaGreatBase
set_option linter.unusedVariables false
set_option linter.unusedSimpArgs false
set_option maxRecDepth 100000
namespace Go.Proofs.YtlppgilifnkapaaGreat
open Go Go.RowKit


theorem nt {b : Bool} (h : (!b) = true) : b = false := by simpa using h
theorem nf {b : Bool} (h : (!b) = false) : b = true := by simpa using h
theorem time_test (l : List Dep) (k : Nat) (t : Int) : decide (t ≤ (elt l k).stamp.time) = !decide ((elt l k).stamp.time < t) := by
  rw [Bool.eq_iff_iff]; simp


def verHead (v : Ver) : Bool := keyB v.key && stampOk v.stamp && inB v.val 0 9999 && clientB v.client && inB v.call 1 99 && depsOk v.deps
theorem verHead_test (v : Ver) : (!keyB v.key || !stampOk v.stamp || !inB v.val 0 9999 || !clientB v.client || !inB v.call 1 99 || !depsOk v.deps) = !verHead v := by simp [verHead]
theorem verOk_eq (v : Ver) : verOk v = (verHead v && timesBelow v.stamp.time v.deps) := rfl

theorem c_impl_VerOk (v : Ver) :
    Fn Tryz.prog 243 [v.av] (AV.bool (verOk v)) := by
 refine Fn.intro 54 Tryz.func243 rfl Tryz.ntmps243 rfl (by kernel_rfl) (fun W I a hs => ?_)
 have hle0 : v.deps.length ≤ 9223372036854775807 := by
    obtain ⟨cs, _, hc⟩ := hs.env 0 _ rfl
    obtain ⟨u, _, hu, _⟩ := hc.get (i := 6) rfl
    exact rows_le hu
 refine wp_seq <| St.region <| hs.o (ok_boxP .tt) fun hs => hs.sc fun hs => wpList_nil <| then_n <| wp_seq <| wp_seq <| St.region <| hs.o (ok_fieldP fd94_0 rfl .tt) fun hs => hs.o (ok_load1 ty3 .tt) fun hs => hs.o (ok_call (c_impl_isKey ..) (args_cons .tt args_nil)) fun hs => hs.o (ok_not .tt) fun hs => hs.m fun hs => hs.q .F (ok_fieldP fd94_1 rfl .tt) fun hs => ?_
 refine hs.q .F ((by first | exact ok_loadA ty67 .ag rfl | exact ok_loadS ty67 .ag rfl)) fun hs => ?_
 refine hs.q .F (ok_call (c_impl_StampOk ..) (args_cons .ag args_nil)) fun hs => ?_
 refine hs.q .F (ok_not .ag) fun hs => ?_
 refine hs.o (ok_or .tt .c .pc) fun hs => hs.m fun hs => hs.q .F (ok_fieldP fd94_2 rfl .tt) fun hs => hs.q .F (ok_load1 ty3 .ag) fun hs => ?_
 refine hs.q .F (ok_call (c_impl_in ..) (args_cons .ag (args_cons .c (args_cons .c args_nil)))) fun hs => ?_
 refine hs.q .F (ok_not .ag) fun hs => ?_
 refine hs.o (ok_or .tt .c .pc) fun hs => hs.m fun hs => hs.q .F (ok_fieldP fd94_3 rfl .tt) fun hs => hs.q .F (ok_load1 ty3 .ag) fun hs => ?_
 refine hs.q .F (ok_call (c_impl_isClient ..) (args_cons .ag args_nil)) fun hs => ?_
 refine hs.q .F (ok_not .ag) fun hs => ?_
 refine hs.o (ok_or .tt .c .pc) fun hs => hs.m fun hs => hs.q .F (ok_fieldP fd94_4 rfl .tt) fun hs => hs.q .F (ok_load1 ty3 .ag) fun hs => ?_
 refine hs.q .F (ok_call (c_impl_in ..) (args_cons .ag (args_cons .c (args_cons .c args_nil)))) fun hs => ?_
 refine hs.q .F (ok_not .ag) fun hs => ?_
 refine hs.o (ok_or .tt .c .pc) fun hs => hs.m fun hs => hs.q .F (ok_fieldP fd94_5 rfl .tt) fun hs => hs.q .F (ok_load1 ty65 .ag) fun hs => ?_
 refine hs.q .F (ok_call (c_impl_DepsOk ..) (args_cons .ag args_nil)) fun hs => ?_
 refine hs.q .F (ok_not .ag) fun hs => ?_
 refine hs.o (ok_or .tt .c .pc) fun hs => wpList_nil <| then_n ?_
 refine hs.cond .tt (fun hb1 => ?_) (fun hb1 => ?_)
 ·rw [verHead_test v] at hb1; replace hb1 := nt hb1
  refine wp_seq <| St.region <| hs.sc fun hs => wpList_nil <| then_n <| wp_ret <| then_r <| hs.ret rfl (.cons (.t rfl) ResL.nil) ?_
  exact ret_bool (by rw [verOk_eq, hb1]; rfl)
 ·rw [verHead_test v] at hb1; replace hb1 := nf hb1
  refine wp_skip <| then_n <| wp_seq <| wp_seq <| St.region <| hs.o (ok_fieldP fd94_5 rfl .tt) fun hs => hs.o (ok_load1 ty65 .tt) fun hs => ?_
  refine hs.o ((by first | exact ok_lenM un65 .tt | exact ok_len un65 .tt | exact ok_lenV un65 .tt)) fun hs => ?_
  refine hs.mc fun hs => wpList_nil <| then_n <| wp_block ?_
  refine St.loopS (σ := Nat) (2 :: 4 :: 42 :: 43 :: 44 :: 45 :: 46 :: 47 :: 48 :: 49 :: 50 :: 51 :: 52 :: 53 :: []) ⟨fun k => [(42, AV.int k)], fun k => [], fun k => k ≤ v.deps.length ∧ ∀ i, i < k → (fun i => decide ((elt v.deps i).stamp.time < v.stamp.time)) i = true⟩ (fun k => v.deps.length - k) 0 hs rfl ?ok1 ?env1 ?round1
  case ok1 => exact ⟨by simp, fun i hi => by omega⟩
  case env1 => exact (Env.le_consE rfl (by rfl) Env.le_nil)
  case round1 =>
   rintro k I a w hok hs
   obtain ⟨hk, hall⟩ := hok
   have hle : v.deps.length ≤ 9223372036854775807 := hle0
   refine wp_seq <| St.region <| hs.o (ok_lss .tt .tt) fun hs => wpList_nil <| then_n <| wp_seq ?_
   refine hs.cond .tt (fun hb2 => ?_) (fun hb2 => ?_)
   ·try simp only [B] at hb2
    refine wp_skip <| then_n <| wp_seq <| wp_block <| wp_seq <| St.region ?_
    refine hs.o ((by first | exact ok_idxN un65 ty74 .tt .tt (fun _ => by omega) | exact ok_idxM un65 ty74 .tt .tt (fun _ => by omega) | exact ok_idx un65 ty74 .tt .tt (fun _ => by omega))) fun hs => ?_
    refine hs.o ((by first | exact ok_loadA ty74 .tt rfl | exact ok_loadS ty74 .tt rfl)) fun hs => ?_
    refine hs.alloc rfl ty74 zc74 fun b4 I a w hs => ?_
    refine hs.storeB 0 ty74 .tt .tt rfl (by first | rfl | assumption) rfl fun a w hs => ?_
    obtain ⟨I, hs, hf⟩ := hs.freezeBox 0 rfl
    have hs := hs.upd (t := 4) rfl hf; clear hf
    refine wpList_nil <| then_n <| wp_seq <| St.region <| hs.o (ok_fieldP fd74_1 rfl .tt) fun hs => hs.o (ok_fieldP fd67_0 rfl .tt) fun hs => hs.o (ok_load1 ty3 .tt) fun hs => hs.o (ok_fieldP fd94_1 rfl .tt) fun hs => hs.o (ok_fieldP fd67_0 rfl .tt) fun hs => hs.o (ok_load1 ty3 .tt) fun hs => hs.o (ok_geq .tt .tt) fun hs => wpList_nil <| then_n ?_
    refine hs.cond .tt (fun hb3 => ?_) (fun hb3 => ?_)
    ·rw [time_test] at hb3; replace hb3 := nt hb3
     refine wp_seq <| St.region <| hs.sc fun hs => wpList_nil <| then_n <| wp_ret <| block_r <| then_r <| then_r <| block_r <| then_r <| hs.ret rfl (.cons (.t rfl) ResL.nil) ?_
     exact ret_bool (by rw [verOk_eq, hb1]; exact (allN_false (f := (fun i => decide ((elt v.deps i).stamp.time < v.stamp.time))) hb2 hb3).symm)
    ·rw [time_test] at hb3; replace hb3 := nf hb3
     refine wp_skip <| block_n <| then_n <| St.region ?_
     refine hs.o (ok_add .tt .c (fun _ => by omega)) fun hs => ?_
     refine hs.m fun hs => wpList_nil <| then_n ?_
     have hs := hs.drop 0
     refine hs.again (k + 1) ?mu1 ?ok1001 (by rfl) ?env1001 (by repeat (first | exact Env.le_rfl | refine Env.le_push rfl ?_))
     case mu1 => omega
     case ok1001 => exact ⟨by omega, allN_next hall hb3⟩
     case env1001 => exact (Env.le_consE rfl (by first | rfl | (congr 1; done)) Env.le_nil)
   ·try simp only [B] at hb2
    refine wp_exit <| then_x <| then_x <| block_hit <| then_n <| wp_seq <| St.region <| hs.sc fun hs => wpList_nil <| then_n <| wp_ret <| hs.ret rfl (.cons (.t rfl) ResL.nil) ?_
    exact ret_bool (by rw [verOk_eq, hb1]; exact (allN_true hall (by omega)).symm)

theorem c_spec_VerOk (v : Ver) :
    Fn Tryz.prog 238 [v.av] (AV.bool (verOk v)) := by
 refine Fn.intro 56 Tryz.func238 rfl Tryz.ntmps238 rfl (by kernel_rfl) (fun W I a hs => ?_)
 have hle0 : v.deps.length ≤ 9223372036854775807 := by
    obtain ⟨cs, _, hc⟩ := hs.env 0 _ rfl
    obtain ⟨u, _, hu, _⟩ := hc.get (i := 6) rfl
    exact rows_le hu
 refine wp_seq <| St.region <| hs.o (ok_boxP .tt) fun hs => hs.sc fun hs => wpList_nil <| then_n <| wp_seq <| wp_seq <| St.region <| hs.o (ok_fieldP fd94_0 rfl .tt) fun hs => hs.o (ok_load1 ty3 .tt) fun hs => hs.o (ok_call (c_spec_l2Key ..) (args_cons .tt args_nil)) fun hs => hs.o (ok_not .tt) fun hs => hs.m fun hs => hs.q .F (ok_fieldP fd94_1 rfl .tt) fun hs => ?_
 refine hs.q .F ((by first | exact ok_loadA ty67 .ag rfl | exact ok_loadS ty67 .ag rfl)) fun hs => ?_
 refine hs.q .F (ok_call (c_spec_StampOk ..) (args_cons .ag args_nil)) fun hs => ?_
 refine hs.q .F (ok_not .ag) fun hs => ?_
 refine hs.o (ok_or .tt .c .pc) fun hs => hs.m fun hs => hs.q .F (ok_fieldP fd94_2 rfl .tt) fun hs => hs.q .F (ok_load1 ty3 .ag) fun hs => ?_
 refine hs.q .F (ok_call (c_spec_l6In ..) (args_cons .ag (args_cons .c (args_cons .c args_nil)))) fun hs => ?_
 refine hs.q .F (ok_not .ag) fun hs => ?_
 refine hs.o (ok_or .tt .c .pc) fun hs => hs.m fun hs => hs.q .F (ok_fieldP fd94_3 rfl .tt) fun hs => hs.q .F (ok_load1 ty3 .ag) fun hs => ?_
 refine hs.q .F (ok_call (c_spec_l6In ..) (args_cons .ag (args_cons .c (args_cons .c args_nil)))) fun hs => ?_
 refine hs.q .F (ok_not .ag) fun hs => ?_
 refine hs.o (ok_or .tt .c .pc) fun hs => hs.m fun hs => hs.q .F (ok_fieldP fd94_4 rfl .tt) fun hs => hs.q .F (ok_load1 ty3 .ag) fun hs => ?_
 refine hs.q .F (ok_call (c_spec_l6In ..) (args_cons .ag (args_cons .c (args_cons .c args_nil)))) fun hs => ?_
 refine hs.q .F (ok_not .ag) fun hs => ?_
 refine hs.o (ok_or .tt .c .pc) fun hs => hs.m fun hs => hs.q .F (ok_fieldP fd94_5 rfl .tt) fun hs => hs.q .F (ok_load1 ty65 .ag) fun hs => ?_
 refine hs.q .F (ok_call (c_spec_DepsOk ..) (args_cons .ag args_nil)) fun hs => ?_
 refine hs.q .F (ok_not .ag) fun hs => ?_
 refine hs.o (ok_or .tt .c .pc) fun hs => wpList_nil <| then_n ?_
 refine hs.cond .tt (fun hb1 => ?_) (fun hb1 => ?_)
 ·rw [show inB v.client 0 1 = clientB v.client from rfl, verHead_test v] at hb1; replace hb1 := nt hb1
  refine wp_seq <| St.region <| hs.sc fun hs => wpList_nil <| then_n <| wp_ret <| then_r <| hs.ret rfl (.cons (.t rfl) ResL.nil) ?_
  exact ret_bool (by rw [verOk_eq, hb1]; rfl)
 ·rw [show inB v.client 0 1 = clientB v.client from rfl, verHead_test v] at hb1; replace hb1 := nf hb1
  refine wp_skip <| then_n <| wp_seq <| wp_seq <| St.region <| hs.sc fun hs => wpList_nil <| then_n <| wp_block ?_
  refine St.loopS (σ := Nat) (2 :: 3 :: 38 :: 39 :: 40 :: 41 :: 42 :: 43 :: 44 :: 45 :: 46 :: 47 :: 48 :: 49 :: 50 :: 51 :: 52 :: 53 :: 54 :: 55 :: []) ⟨fun k => [(3, AV.int k)], fun k => [], fun k => k ≤ v.deps.length ∧ ∀ i, i < k → (fun i => decide ((elt v.deps i).stamp.time < v.stamp.time)) i = true⟩ (fun k => v.deps.length - k) 0 hs rfl ?ok1 ?env1 ?round1
  case ok1 => exact ⟨by simp, fun i hi => by omega⟩
  case env1 => exact (Env.le_consE rfl (by rfl) Env.le_nil)
  case round1 =>
   rintro k I a w hok hs
   obtain ⟨hk, hall⟩ := hok
   have hle : v.deps.length ≤ 9223372036854775807 := hle0
   refine wp_seq <| wp_seq <| St.region <| hs.m fun hs => hs.o (ok_fieldP fd94_5 rfl .tt) fun hs => hs.o (ok_load1 ty65 .tt) fun hs => ?_
   refine hs.o ((by first | exact ok_lenM un65 .tt | exact ok_len un65 .tt | exact ok_lenV un65 .tt)) fun hs => ?_
   refine hs.o (ok_lss .tt .tt) fun hs => wpList_nil <| then_n ?_
   refine hs.cond .tt (fun hb2 => ?_) (fun hb2 => ?_)
   ·try simp only [B] at hb2
    refine wp_skip <| then_n <| wp_seq <| wp_block <| wp_seq <| hs.dk <| .o (ok_fieldP fd94_5 rfl .tt) <| .o (ok_load1 ty65 .tt) <| .o (ok_move .tt) ?_
    refine .o ((by first | exact ok_idxN un65 ty74 .tt .tt (fun _ => by omega) | exact ok_idxM un65 ty74 .tt .tt (fun _ => by omega) | exact ok_idx un65 ty74 .tt .tt (fun _ => by omega))) ?_
    refine .o (ok_fieldP fd74_1 rfl .tt) <| .o (ok_fieldP fd67_0 rfl .tt) <| .o (ok_load1 ty3 .tt) <| .o (ok_fieldP fd94_1 rfl .tt) <| .o (ok_fieldP fd67_0 rfl .tt) <| .o (ok_load1 ty3 .tt) <| .o (ok_geq .tt .tt) <| RunK.nil ?_
    intro I a w hs
    refine then_n ?_
    refine hs.cond .tt (fun hb3 => ?_) (fun hb3 => ?_)
    ·rw [time_test] at hb3; replace hb3 := nt hb3
     refine wp_seq <| St.region <| hs.sc fun hs => wpList_nil <| then_n <| wp_ret <| block_r <| then_r <| then_r <| block_r <| then_r <| hs.ret rfl (.cons (.t rfl) ResL.nil) ?_
     exact ret_bool (by rw [verOk_eq, hb1]; exact (allN_false (f := (fun i => decide ((elt v.deps i).stamp.time < v.stamp.time))) hb2 hb3).symm)
    ·rw [time_test] at hb3; replace hb3 := nf hb3
     refine wp_skip <| block_n <| then_n <| St.region <| hs.m fun hs => ?_
     refine hs.o (ok_add .tt .c (fun _ => by omega)) fun hs => ?_
     refine hs.s fun hs => wpList_nil <| then_n ?_
     refine hs.again (k + 1) ?mu1 ?ok1001 (by rfl) ?env1001 (by repeat (first | exact Env.le_rfl | refine Env.le_push rfl ?_))
     case mu1 => omega
     case ok1001 => exact ⟨by omega, allN_next hall hb3⟩
     case env1001 => exact (Env.le_consE rfl (by first | rfl | (congr 1; done)) Env.le_nil)
   ·try simp only [B] at hb2
    refine wp_exit <| then_x <| then_x <| block_hit <| then_n <| wp_seq <| St.region <| hs.sc fun hs => wpList_nil <| then_n <| wp_ret <| hs.ret rfl (.cons (.t rfl) ResL.nil) ?_
    exact ret_bool (by rw [verOk_eq, hb1]; exact (allN_true hall (by omega)).symm)

theorem c_impl_Ver_dep (v : Ver) :
    Fn Tryz.prog 125 [v.av] (v.dep.av) := by
 refine Fn.intro 8 Tryz.func125 rfl Tryz.ntmps125 rfl (by kernel_rfl) (fun W I a hs => ?_)
 refine wp_seq <| St.region <| hs.o (ok_boxP .tt) fun hs => hs.alloc rfl ty74 zc74 fun b2 I a w hs => wpList_nil <| then_n <| wp_seq <| St.region <| hs.o (ok_fieldP fd94_0 rfl .tt) fun hs => hs.o (ok_load1 ty3 .tt) fun hs => hs.o (ok_fieldP fd94_1 rfl .tt) fun hs => ?_
 refine hs.o ((by first | exact ok_loadA ty67 .tt rfl | exact ok_loadS ty67 .tt rfl)) fun hs => ?_
 refine hs.o (ok_build (l0 := [AV.val (.int .i64 0), AV.val (.int .i64 0), AV.val (.int .i64 0)]) ty74 fk74 zc74 rfl (Parts.c sp74_0 rfl .tt (by first | exact one_val rfl | exact one_rows | exact one_ptr | exact one_fn) (Parts.s sp74_1 rfl rfl .tt Parts.nil))) fun hs => ?_
 refine hs.storeB 0 ty74 .tt .tt rfl (by first | rfl | assumption) rfl fun a w hs => ?_
 refine wpList_nil <| then_n <| wp_ret ?_
 refine hs.ret rfl (.cons (.s 0 ty74 rfl rfl (by first | rfl | assumption)) ResL.nil) ?_
 rfl

theorem c_impl_depLess (a b : Dep) :
    Fn Tryz.prog 206 [a.av, b.av] (AV.bool (depLess a b)) := by
 refine Fn.intro 24 Tryz.func206 rfl Tryz.ntmps206 rfl (by kernel_rfl) (fun W I a hs => ?_)
 refine wp_seq <| St.region <| hs.o (ok_boxP .tt) fun hs => hs.o (ok_boxP .tt) fun hs => hs.sc fun hs => wpList_nil <| then_n <| wp_seq <| St.region <| hs.o (ok_fieldP fd74_0 rfl .tt) fun hs => hs.o (ok_load1 ty3 .tt) fun hs => hs.o (ok_fieldP fd74_0 rfl .tt) fun hs => hs.o (ok_load1 ty3 .tt) fun hs => hs.o (ok_lss .tt .tt) fun hs => hs.m fun hs => hs.q .F (ok_fieldP fd74_0 rfl .tt) fun hs => hs.q .F (ok_load1 ty3 .ag) fun hs => ?_
 refine hs.q .F (ok_fieldP fd74_0 rfl .tt) fun hs => hs.q .F (ok_load1 ty3 .ag) fun hs => ?_
 refine hs.q .F (ok_eqi .ag .ag) fun hs => ?_
 refine hs.q .F (ok_move .ag) fun hs => ?_
 refine hs.q .T2 (ok_fieldP fd74_1 rfl .tt) fun hs => ?_
 refine hs.q .T2 ((by first | exact ok_loadA ty67 .ag rfl | exact ok_loadS ty67 .ag rfl)) fun hs => ?_
 refine hs.q .T2 (ok_fieldP fd74_1 rfl .tt) fun hs => ?_
 refine hs.q .T2 ((by first | exact ok_loadA ty67 .ag rfl | exact ok_loadS ty67 .ag rfl)) fun hs => ?_
 refine hs.q .T2 (ok_call (c_impl_StampLess ..) (args_cons .ag (args_cons .ag args_nil))) fun hs => ?_
 refine hs.q .F (ok_and .ag .pc .c) fun hs => ?_
 refine hs.o (ok_or .tt .c .pc) fun hs => hs.s fun hs => wpList_nil <| then_n <| wp_ret <| hs.ret rfl (.cons (.t rfl) ResL.nil) ?_
 rfl

theorem c_spec_l3Less (a b : Ver) :
    Fn Tryz.prog 154 [a.av, b.av] (AV.bool (verLess a b)) := by
 refine Fn.intro 24 Tryz.func154 rfl Tryz.ntmps154 rfl (by kernel_rfl) (fun W I a hs => ?_)
 refine wp_seq <| St.region <| hs.o (ok_boxP .tt) fun hs => hs.o (ok_boxP .tt) fun hs => hs.sc fun hs => wpList_nil <| then_n <| wp_seq <| St.region <| hs.o (ok_fieldP fd94_0 rfl .tt) fun hs => hs.o (ok_load1 ty3 .tt) fun hs => hs.o (ok_fieldP fd94_0 rfl .tt) fun hs => hs.o (ok_load1 ty3 .tt) fun hs => hs.o (ok_lss .tt .tt) fun hs => hs.m fun hs => hs.q .F (ok_fieldP fd94_0 rfl .tt) fun hs => hs.q .F (ok_load1 ty3 .ag) fun hs => ?_
 refine hs.q .F (ok_fieldP fd94_0 rfl .tt) fun hs => hs.q .F (ok_load1 ty3 .ag) fun hs => ?_
 refine hs.q .F (ok_eqi .ag .ag) fun hs => ?_
 refine hs.q .F (ok_move .ag) fun hs => ?_
 refine hs.q .T2 (ok_fieldP fd94_1 rfl .tt) fun hs => ?_
 refine hs.q .T2 ((by first | exact ok_loadA ty67 .ag rfl | exact ok_loadS ty67 .ag rfl)) fun hs => ?_
 refine hs.q .T2 (ok_fieldP fd94_1 rfl .tt) fun hs => ?_
 refine hs.q .T2 ((by first | exact ok_loadA ty67 .ag rfl | exact ok_loadS ty67 .ag rfl)) fun hs => ?_
 refine hs.q .T2 (ok_call (c_spec_StampLess ..) (args_cons .ag (args_cons .ag args_nil))) fun hs => ?_
 refine hs.q .F (ok_and .ag .pc .c) fun hs => ?_
 refine hs.o (ok_or .tt .c .pc) fun hs => hs.s fun hs => wpList_nil <| then_n <| wp_ret <| hs.ret rfl (.cons (.t rfl) ResL.nil) ?_
 rfl

theorem c_spec_l11Client (n : Int) :
    Fn Tryz.prog 171 [AV.int n] (AV.bool (inB n 10 11)) := by
 refine Fn.intro 5 Tryz.func171 rfl Tryz.ntmps171 rfl (by kernel_rfl) (fun W I a hs => ?_)
 refine wp_seq <| St.region <| hs.sc fun hs => wpList_nil <| then_n <| wp_seq <| St.region <| hs.m fun hs => hs.o (ok_call (c_spec_l6In ..) (args_cons .tt (args_cons .c (args_cons .c args_nil)))) fun hs => hs.s fun hs => wpList_nil <| then_n <| wp_ret <| hs.ret rfl (.cons (.t rfl) ResL.nil) ?_
 rfl


theorem client_sub (n : Int) : clientB (n - 10) = inB n 10 11 := by
  simp only [clientB, inB]; rw [Bool.eq_iff_iff]; simp; omega
theorem client_wrap {n : Int} (h : i64r n) : clientB (IntKind.i64.wrap (n - 10)) = clientB (n - 10) := by
  obtain ⟨h1, h2⟩ := h
  by_cases h3 : -9223372036854775808 ≤ n - 10
  · rw [IntWalk.i64_in _ ⟨h3, by omega⟩]
  · have e : IntKind.i64.wrap (n - 10) = n - 10 + 18446744073709551616 := by
      simp only [IntKind.wrap]; simp [IntKind.signed, IntKind.bits]; omega
    rw [e]; simp only [clientB, inB]
    rw [Bool.eq_iff_iff]; simp; omega

theorem c_impl_isAddress (n : Int) (hn : i64r n) :
    Fn Tryz.prog 191 [AV.int n] (AV.bool (addressB n)) := by
 refine Fn.intro 10 Tryz.func191 rfl Tryz.ntmps191 rfl (by kernel_rfl) (fun W I a hs => ?_)
 refine wp_seq <| St.region <| hs.sc fun hs => wpList_nil <| then_n <| wp_seq <| St.region <| hs.m fun hs => hs.o (ok_call (c_impl_isSite ..) (args_cons .tt args_nil)) fun hs => hs.m fun hs => hs.q .F (ok_move .tt) fun hs => hs.q .F (ok_subW (.g rfl (fun h => h)) .c) fun hs => hs.q .F (ok_call (c_impl_isClient ..) (args_cons .ag args_nil)) fun hs => ?_
 refine hs.o (ok_or .tt .c .pc) fun hs => hs.s fun hs => wpList_nil <| then_n <| wp_ret <| hs.ret rfl (.cons (.t rfl) ResL.nil) ?_
 exact ret_bool (by rw [client_wrap hn, client_sub]; rfl)


theorem owes_test (l : List Dep) (k : Nat) : (!keyB (elt l k).key || !stampOk (elt l k).stamp || (decide (0 < (k : Int)) && !depLess (elt l ((k : Int) - 1).toNat) (elt l k))) = !linkB debtOk depLess l k := by
  rw [← link_test]; simp [debtOk]
theorem owes_test2 (l : List Dep) (k : Nat) : (!keyB (elt l k).key || !stampOk (elt l k).stamp || (decide (0 < (k : Int)) && (decide ((elt l k).key < (elt l ((k : Int) - 1).toNat).key) || ((elt l ((k : Int) - 1).toNat).key == (elt l k).key && !stampLess (elt l ((k : Int) - 1).toNat).stamp (elt l k).stamp)))) = !linkB debtOk depLess l k := by
  rw [← owes_test]
  congr 2
  generalize elt l ((k : Int) - 1).toNat = p
  generalize elt l k = q
  simp only [depLess]
  rcases Int.lt_trichotomy p.key q.key with h | h | h
  · have h1 : ¬ q.key < p.key := by omega
    have h2 : (p.key == q.key) = false := by simp; omega
    simp [h, h1, h2]
  · simp [h]
  · have h1 : ¬ p.key < q.key := by omega
    have h2 : (p.key == q.key) = false := by simp; omega
    simp [h, h1, h2]

theorem c_impl_ChainOk (l : List Ver) :
    Fn Tryz.prog 186 [versAV l] (AV.bool (chainOk l)) := by
 refine Fn.intro 35 Tryz.func186 rfl Tryz.ntmps186 rfl (by kernel_rfl) (fun W I a hs => ?_)
 have hle := hs.lenleM (t := 0) rfl
 refine wp_seq <| St.region <| hs.sc fun hs => wpList_nil <| then_n <| wp_seq <| wp_seq <| St.region <| hs.m fun hs => ?_
 refine hs.o ((by first | exact ok_lenM un48 .tt | exact ok_len un48 .tt | exact ok_lenV un48 .tt)) fun hs => ?_
 refine hs.mc fun hs => wpList_nil <| then_n <| wp_block ?_
 refine St.loopS (σ := Nat) (2 :: 3 :: 4 :: 7 :: 8 :: 9 :: 10 :: 11 :: 12 :: 13 :: 14 :: 15 :: 16 :: 17 :: 18 :: 19 :: 20 :: 21 :: 22 :: 23 :: 24 :: 25 :: 26 :: 27 :: 28 :: 29 :: 30 :: 31 :: []) ⟨fun k => [(7, AV.int k)], fun k => [], fun k => k ≤ l.length ∧ ∀ i, i < k → (linkB verOk verLess l) i = true⟩ (fun k => l.length - k) 0 hs rfl ?ok1 ?env1 ?round1
 case ok1 => exact ⟨by simp, fun i hi => by omega⟩
 case env1 => exact (Env.le_consE rfl (by rfl) Env.le_nil)
 case round1 =>
  rintro k I a w hok hs
  obtain ⟨hk, hall⟩ := hok
  refine wp_seq <| St.region <| hs.o (ok_lss .tt .tt) fun hs => wpList_nil <| then_n <| wp_seq ?_
  refine hs.cond .tt (fun hb1 => ?_) (fun hb1 => ?_)
  ·try simp only [B] at hb1
   refine wp_skip <| then_n <| wp_seq <| wp_block <| wp_seq <| St.region <| hs.m fun hs => ?_
   refine hs.o ((by first | exact ok_idxN un48 ty94 .tt .tt (fun _ => by omega) | exact ok_idxM un48 ty94 .tt .tt (fun _ => by omega) | exact ok_idx un48 ty94 .tt .tt (fun _ => by omega))) fun hs => ?_
   refine hs.o ((by first | exact ok_loadA ty94 .tt rfl | exact ok_loadS ty94 .tt rfl)) fun hs => ?_
   refine hs.alloc rfl ty94 zc94 fun b4 I a w hs => hs.s fun hs => ?_
   refine hs.storeB 0 ty94 .tt .tt rfl (by first | rfl | assumption) rfl fun a w hs => ?_
   obtain ⟨I, hs, hf⟩ := hs.freezeBox 0 rfl
   have hs := hs.upd (t := 4) rfl hf; clear hf
   refine wpList_nil <| then_n <| wp_seq <| hs.dk ?_
   refine .o ((by first | exact ok_loadA ty94 .tt rfl | exact ok_loadS ty94 .tt rfl)) ?_
   refine .o (ok_call (c_impl_VerOk ..) (args_cons .tt args_nil)) <| .o (ok_not .tt) <| .o (ok_move .tt) <| .q .F (ok_move .tt) <| .q .F (ok_gtr .ag .c) ?_
   refine .q .F (ok_move .ag) ?_
   refine .q .T2 (ok_move .tt) <| .q .T2 (ok_move .tt) ?_
   refine .q .T2 (ok_sub .ag .c (fun hg => by simp at hg; omega)) ?_
   refine .q .T2 ((by first | exact ok_idxN un48 ty94 .ag .ag (fun hg => by simp at hg; omega) | exact ok_idxM un48 ty94 .ag .ag (fun hg => by simp at hg; omega) | exact ok_idx un48 ty94 .ag .ag (fun hg => by simp at hg; omega))) ?_
   refine .q .T2 ((by first | exact ok_loadA ty94 .ag rfl | exact ok_loadS ty94 .ag rfl)) ?_
   refine .q .T2 (ok_call (c_impl_Ver_dep ..) (args_cons .ag args_nil)) ?_
   refine .q .T2 ((by first | exact ok_loadA ty94 .tt rfl | exact ok_loadS ty94 .tt rfl)) ?_
   refine .q .T2 (ok_call (c_impl_Ver_dep ..) (args_cons .ag args_nil)) ?_
   refine .q .T2 (ok_call (c_impl_depLess ..) (args_cons .ag (args_cons .ag args_nil))) ?_
   refine .q .T2 (ok_not .ag) ?_
   refine .q .F (ok_and .ag .pc .c) ?_
   refine .o (ok_or .tt .c .pc) <| RunK.nil ?_
   intro I a w hs
   refine then_n ?_
   refine hs.cond .tt (fun hb2 => ?_) (fun hb2 => ?_)
   ·rw [show depLess (elt l ((k : Int) - 1).toNat).dep (elt l k).dep = verLess (elt l ((k : Int) - 1).toNat) (elt l k) from rfl, link_test] at hb2; replace hb2 := nt hb2
    refine wp_seq <| St.region <| hs.sc fun hs => wpList_nil <| then_n <| wp_ret <| block_r <| then_r <| then_r <| block_r <| then_r <| hs.ret rfl (.cons (.t rfl) ResL.nil) ?_
    exact ret_bool (by unfold chainOk; rw [allN_false (f := (linkB verOk verLess l)) hb1 hb2]; simp)
   ·rw [show depLess (elt l ((k : Int) - 1).toNat).dep (elt l k).dep = verLess (elt l ((k : Int) - 1).toNat) (elt l k) from rfl, link_test] at hb2; replace hb2 := nf hb2
    refine wp_skip <| block_n <| then_n <| St.region ?_
    refine hs.o (ok_add .tt .c (fun _ => by omega)) fun hs => ?_
    refine hs.m fun hs => wpList_nil <| then_n ?_
    have hs := hs.drop 0
    refine hs.again (k + 1) ?mu1 ?ok1001 (by rfl) ?env1001 (by repeat (first | exact Env.le_rfl | refine Env.le_push rfl ?_))
    case mu1 => omega
    case ok1001 => exact ⟨by omega, allN_next hall hb2⟩
    case env1001 => exact (Env.le_consE rfl (by first | rfl | (congr 1; done)) Env.le_nil)
  ·try simp only [B] at hb1
   refine wp_exit <| then_x <| then_x <| block_hit <| then_n <| wp_seq <| St.region <| hs.m fun hs => ?_
   refine hs.o ((by first | exact ok_lenM un48 .tt | exact ok_len un48 .tt | exact ok_lenV un48 .tt)) fun hs => ?_
   refine hs.o (ok_leq .tt .c) fun hs => hs.s fun hs => wpList_nil <| then_n <| wp_ret <| hs.ret rfl (.cons (.t rfl) ResL.nil) ?_
   exact ret_bool (by unfold chainOk; rw [allN_true hall (by omega), Bool.and_true]; simp; try omega)

theorem c_impl_debtsOk (l : List Dep) :
    Fn Tryz.prog 187 [depsAV l] (AV.bool (debtsOk l)) := by
 refine Fn.intro 40 Tryz.func187 rfl Tryz.ntmps187 rfl (by kernel_rfl) (fun W I a hs => ?_)
 have hle := hs.lenleM (t := 0) rfl
 refine wp_seq <| St.region <| hs.sc fun hs => wpList_nil <| then_n <| wp_seq <| wp_seq <| St.region <| hs.m fun hs => ?_
 refine hs.o ((by first | exact ok_lenM un65 .tt | exact ok_len un65 .tt | exact ok_lenV un65 .tt)) fun hs => ?_
 refine hs.mc fun hs => wpList_nil <| then_n <| wp_block ?_
 refine St.loopS (σ := Nat) (2 :: 3 :: 4 :: 7 :: 8 :: 9 :: 10 :: 11 :: 12 :: 13 :: 14 :: 15 :: 16 :: 17 :: 18 :: 19 :: 20 :: 21 :: 22 :: 23 :: 24 :: 25 :: 26 :: 27 :: 28 :: 29 :: 30 :: 31 :: 32 :: 33 :: 34 :: 35 :: 36 :: []) ⟨fun k => [(7, AV.int k)], fun k => [], fun k => k ≤ l.length ∧ ∀ i, i < k → (linkB debtOk depLess l) i = true⟩ (fun k => l.length - k) 0 hs rfl ?ok1 ?env1 ?round1
 case ok1 => exact ⟨by simp, fun i hi => by omega⟩
 case env1 => exact (Env.le_consE rfl (by rfl) Env.le_nil)
 case round1 =>
  rintro k I a w hok hs
  obtain ⟨hk, hall⟩ := hok
  refine wp_seq <| St.region <| hs.o (ok_lss .tt .tt) fun hs => wpList_nil <| then_n <| wp_seq ?_
  refine hs.cond .tt (fun hb1 => ?_) (fun hb1 => ?_)
  ·try simp only [B] at hb1
   refine wp_skip <| then_n <| wp_seq <| wp_block <| wp_seq <| St.region <| hs.m fun hs => ?_
   refine hs.o ((by first | exact ok_idxN un65 ty74 .tt .tt (fun _ => by omega) | exact ok_idxM un65 ty74 .tt .tt (fun _ => by omega) | exact ok_idx un65 ty74 .tt .tt (fun _ => by omega))) fun hs => ?_
   refine hs.o ((by first | exact ok_loadA ty74 .tt rfl | exact ok_loadS ty74 .tt rfl)) fun hs => ?_
   refine hs.alloc rfl ty74 zc74 fun b4 I a w hs => hs.s fun hs => ?_
   refine hs.storeB 0 ty74 .tt .tt rfl (by first | rfl | assumption) rfl fun a w hs => ?_
   obtain ⟨I, hs, hf⟩ := hs.freezeBox 0 rfl
   have hs := hs.upd (t := 4) rfl hf; clear hf
   refine wpList_nil <| then_n <| wp_seq <| hs.dk <| .o (ok_fieldP fd74_0 rfl .tt) <| .o (ok_load1 ty3 .tt) <| .o (ok_call (c_impl_isKey ..) (args_cons .tt args_nil)) <| .o (ok_not .tt) <| .o (ok_move .tt) <| .q .F (ok_fieldP fd74_1 rfl .tt) ?_
   refine .q .F ((by first | exact ok_loadA ty67 .ag rfl | exact ok_loadS ty67 .ag rfl)) ?_
   refine .q .F (ok_call (c_impl_StampOk ..) (args_cons .ag args_nil)) ?_
   refine .q .F (ok_not .ag) ?_
   refine .o (ok_or .tt .c .pc) <| .o (ok_move .tt) <| .q .F (ok_move .tt) <| .q .F (ok_gtr .ag .c) ?_
   refine .q .F (ok_move .ag) ?_
   refine .q .T2 (ok_move .tt) <| .q .T2 (ok_move .tt) ?_
   refine .q .T2 (ok_sub .ag .c (fun hg => by simp at hg; omega)) ?_
   refine .q .T2 ((by first | exact ok_idxN un65 ty74 .ag .ag (fun hg => by simp at hg; omega) | exact ok_idxM un65 ty74 .ag .ag (fun hg => by simp at hg; omega) | exact ok_idx un65 ty74 .ag .ag (fun hg => by simp at hg; omega))) ?_
   refine .q .T2 ((by first | exact ok_loadA ty74 .ag rfl | exact ok_loadS ty74 .ag rfl)) ?_
   refine .q .T2 ((by first | exact ok_loadA ty74 .tt rfl | exact ok_loadS ty74 .tt rfl)) ?_
   refine .q .T2 (ok_call (c_impl_depLess ..) (args_cons .ag (args_cons .ag args_nil))) ?_
   refine .q .T2 (ok_not .ag) ?_
   refine .q .F (ok_and .ag .pc .c) ?_
   refine .o (ok_or .tt .c .pc) <| RunK.nil ?_
   intro I a w hs
   refine then_n ?_
   refine hs.cond .tt (fun hb2 => ?_) (fun hb2 => ?_)
   ·rw [owes_test] at hb2; replace hb2 := nt hb2
    refine wp_seq <| St.region <| hs.sc fun hs => wpList_nil <| then_n <| wp_ret <| block_r <| then_r <| then_r <| block_r <| then_r <| hs.ret rfl (.cons (.t rfl) ResL.nil) ?_
    exact ret_bool (by unfold debtsOk; rw [allN_false (f := (linkB debtOk depLess l)) hb1 hb2]; simp)
   ·rw [owes_test] at hb2; replace hb2 := nf hb2
    refine wp_skip <| block_n <| then_n <| St.region ?_
    refine hs.o (ok_add .tt .c (fun _ => by omega)) fun hs => ?_
    refine hs.m fun hs => wpList_nil <| then_n ?_
    have hs := hs.drop 0
    refine hs.again (k + 1) ?mu1 ?ok1001 (by rfl) ?env1001 (by repeat (first | exact Env.le_rfl | refine Env.le_push rfl ?_))
    case mu1 => omega
    case ok1001 => exact ⟨by omega, allN_next hall hb2⟩
    case env1001 => exact (Env.le_consE rfl (by first | rfl | (congr 1; done)) Env.le_nil)
  ·try simp only [B] at hb1
   refine wp_exit <| then_x <| then_x <| block_hit <| then_n <| wp_seq <| St.region <| hs.m fun hs => ?_
   refine hs.o ((by first | exact ok_lenM un65 .tt | exact ok_len un65 .tt | exact ok_lenV un65 .tt)) fun hs => ?_
   refine hs.o (ok_leq .tt .c) fun hs => hs.s fun hs => wpList_nil <| then_n <| wp_ret <| hs.ret rfl (.cons (.t rfl) ResL.nil) ?_
   exact ret_bool (by unfold debtsOk; rw [allN_true hall (by omega), Bool.and_true]; simp; try omega)

theorem c_spec_ChainOk (l : List Ver) :
    Fn Tryz.prog 167 [versAV l] (AV.bool (chainOk l)) := by
 refine Fn.intro 36 Tryz.func167 rfl Tryz.ntmps167 rfl (by kernel_rfl) (fun W I a hs => ?_)
 have hle := hs.lenleM (t := 0) rfl
 refine wp_seq <| St.region <| hs.sc fun hs => wpList_nil <| then_n <| wp_seq <| wp_seq <| St.region <| hs.m fun hs => ?_
 refine hs.o ((by first | exact ok_lenM un48 .tt | exact ok_len un48 .tt | exact ok_lenV un48 .tt)) fun hs => ?_
 refine hs.o (ok_gtr .tt .c) fun hs => wpList_nil <| then_n ?_
 refine hs.cond .tt (fun hb1 => ?_) (fun hb1 => ?_)
 ·try simp only [B] at hb1
  refine wp_seq <| St.region <| hs.sc fun hs => wpList_nil <| then_n <| wp_ret <| then_r <| hs.ret rfl (.cons (.t rfl) ResL.nil) ?_
  exact ret_bool (by simp [chainOk]; omega)
 ·try simp only [B] at hb1
  refine wp_skip <| then_n <| wp_seq <| wp_seq <| St.region <| hs.sc fun hs => wpList_nil <| then_n <| wp_block ?_
  refine St.loopS (σ := Nat) (2 :: 3 :: 7 :: 8 :: 9 :: 10 :: 11 :: 12 :: 13 :: 14 :: 15 :: 16 :: 17 :: 18 :: 19 :: 20 :: 21 :: 22 :: 23 :: 24 :: 25 :: 26 :: 27 :: 28 :: 29 :: 30 :: 31 :: 32 :: 33 :: 34 :: 35 :: []) ⟨fun k => [(3, AV.int k)], fun k => [], fun k => k ≤ l.length ∧ ∀ i, i < k → (linkB verOk verLess l) i = true⟩ (fun k => l.length - k) 0 hs rfl ?ok1 ?env1 ?round1
  case ok1 => exact ⟨by simp, fun i hi => by omega⟩
  case env1 => exact (Env.le_consE rfl (by rfl) Env.le_nil)
  case round1 =>
   rintro k I a w hok hs
   obtain ⟨hk, hall⟩ := hok
   refine wp_seq <| wp_seq <| St.region <| hs.m fun hs => hs.m fun hs => ?_
   refine hs.o ((by first | exact ok_lenM un48 .tt | exact ok_len un48 .tt | exact ok_lenV un48 .tt)) fun hs => ?_
   refine hs.o (ok_lss .tt .tt) fun hs => wpList_nil <| then_n ?_
   refine hs.cond .tt (fun hb2 => ?_) (fun hb2 => ?_)
   ·try simp only [B] at hb2
    refine wp_skip <| then_n <| wp_seq <| wp_block <| wp_seq <| hs.dk <| .o (ok_move .tt) <| .o (ok_move .tt) ?_
    refine .o ((by first | exact ok_idxN un48 ty94 .tt .tt (fun _ => by omega) | exact ok_idxM un48 ty94 .tt .tt (fun _ => by omega) | exact ok_idx un48 ty94 .tt .tt (fun _ => by omega))) ?_
    refine .o ((by first | exact ok_loadA ty94 .tt rfl | exact ok_loadS ty94 .tt rfl)) ?_
    refine .o (ok_call (c_spec_VerOk ..) (args_cons .tt args_nil)) <| .o (ok_not .tt) <| .o (ok_move .tt) <| .q .F (ok_move .tt) <| .q .F (ok_gtr .ag .c) ?_
    refine .q .F (ok_move .ag) ?_
    refine .q .T2 (ok_move .tt) <| .q .T2 (ok_move .tt) ?_
    refine .q .T2 (ok_sub .ag .c (fun hg => by simp at hg; omega)) ?_
    refine .q .T2 ((by first | exact ok_idxN un48 ty94 .ag .ag (fun hg => by simp at hg; omega) | exact ok_idxM un48 ty94 .ag .ag (fun hg => by simp at hg; omega) | exact ok_idx un48 ty94 .ag .ag (fun hg => by simp at hg; omega))) ?_
    refine .q .T2 ((by first | exact ok_loadA ty94 .ag rfl | exact ok_loadS ty94 .ag rfl)) ?_
    refine .q .T2 (ok_move .tt) <| .q .T2 (ok_move .tt) ?_
    refine .q .T2 ((by first | exact ok_idxN un48 ty94 .ag .ag (fun hg => by omega) | exact ok_idxM un48 ty94 .ag .ag (fun hg => by omega) | exact ok_idx un48 ty94 .ag .ag (fun hg => by omega))) ?_
    refine .q .T2 ((by first | exact ok_loadA ty94 .ag rfl | exact ok_loadS ty94 .ag rfl)) ?_
    refine .q .T2 (ok_call (c_spec_l3Less ..) (args_cons .ag (args_cons .ag args_nil))) ?_
    refine .q .T2 (ok_not .ag) ?_
    refine .q .F (ok_and .ag .pc .c) ?_
    refine .o (ok_or .tt .c .pc) <| RunK.nil ?_
    intro I a w hs
    refine then_n ?_
    refine hs.cond .tt (fun hb3 => ?_) (fun hb3 => ?_)
    ·rw [link_test] at hb3; replace hb3 := nt hb3
     refine wp_seq <| St.region <| hs.sc fun hs => wpList_nil <| then_n <| wp_ret <| block_r <| then_r <| then_r <| block_r <| then_r <| hs.ret rfl (.cons (.t rfl) ResL.nil) ?_
     exact ret_bool (by unfold chainOk; rw [allN_false (f := (linkB verOk verLess l)) hb2 hb3]; simp)
    ·rw [link_test] at hb3; replace hb3 := nf hb3
     refine wp_skip <| block_n <| then_n <| St.region <| hs.m fun hs => ?_
     refine hs.o (ok_add .tt .c (fun _ => by omega)) fun hs => ?_
     refine hs.s fun hs => wpList_nil <| then_n ?_
     refine hs.again (k + 1) ?mu1 ?ok1001 (by rfl) ?env1001 (by repeat (first | exact Env.le_rfl | refine Env.le_push rfl ?_))
     case mu1 => omega
     case ok1001 => exact ⟨by omega, allN_next hall hb3⟩
     case env1001 => exact (Env.le_consE rfl (by first | rfl | (congr 1; done)) Env.le_nil)
   ·try simp only [B] at hb2
    refine wp_exit <| then_x <| then_x <| block_hit <| then_n <| wp_seq <| St.region <| hs.sc fun hs => wpList_nil <| then_n <| wp_ret <| hs.ret rfl (.cons (.t rfl) ResL.nil) ?_
    exact ret_bool (by unfold chainOk; rw [allN_true hall (by omega), Bool.and_true]; simp; omega)

theorem c_spec_l11Owes (l : List Dep) :
    Fn Tryz.prog 168 [depsAV l] (AV.bool (debtsOk l)) := by
 refine Fn.intro 66 Tryz.func168 rfl Tryz.ntmps168 rfl (by kernel_rfl) (fun W I a hs => ?_)
 have hle := hs.lenleM (t := 0) rfl
 refine wp_seq <| St.region <| hs.sc fun hs => wpList_nil <| then_n <| wp_seq <| wp_seq <| St.region <| hs.m fun hs => ?_
 refine hs.o ((by first | exact ok_lenM un65 .tt | exact ok_len un65 .tt | exact ok_lenV un65 .tt)) fun hs => ?_
 refine hs.o (ok_gtr .tt .c) fun hs => wpList_nil <| then_n ?_
 refine hs.cond .tt (fun hb1 => ?_) (fun hb1 => ?_)
 ·try simp only [B] at hb1
  refine wp_seq <| St.region <| hs.sc fun hs => wpList_nil <| then_n <| wp_ret <| then_r <| hs.ret rfl (.cons (.t rfl) ResL.nil) ?_
  exact ret_bool (by simp [debtsOk]; omega)
 ·try simp only [B] at hb1
  refine wp_skip <| then_n <| wp_seq <| wp_seq <| St.region <| hs.sc fun hs => wpList_nil <| then_n <| wp_block ?_
  refine St.loopS (σ := Nat) (2 :: 3 :: 4 :: 8 :: 9 :: 10 :: 11 :: 12 :: 13 :: 14 :: 15 :: 16 :: 17 :: 18 :: 19 :: 20 :: 21 :: 22 :: 23 :: 24 :: 25 :: 26 :: 27 :: 28 :: 29 :: 30 :: 31 :: 32 :: 33 :: 34 :: 35 :: 36 :: 37 :: 38 :: 39 :: 40 :: 41 :: 42 :: 43 :: 44 :: 45 :: 46 :: 47 :: 48 :: 49 :: 50 :: 51 :: 52 :: 53 :: 54 :: 55 :: 56 :: 57 :: 58 :: 59 :: 60 :: 61 :: 62 :: 63 :: 64 :: 65 :: []) ⟨fun k => [(3, AV.int k)], fun k => [], fun k => k ≤ l.length ∧ ∀ i, i < k → (linkB debtOk depLess l) i = true⟩ (fun k => l.length - k) 0 hs rfl ?ok1 ?env1 ?round1
  case ok1 => exact ⟨by simp, fun i hi => by omega⟩
  case env1 => exact (Env.le_consE rfl (by rfl) Env.le_nil)
  case round1 =>
   rintro k I a w hok hs
   obtain ⟨hk, hall⟩ := hok
   refine wp_seq <| wp_seq <| St.region <| hs.m fun hs => hs.m fun hs => ?_
   refine hs.o ((by first | exact ok_lenM un65 .tt | exact ok_len un65 .tt | exact ok_lenV un65 .tt)) fun hs => ?_
   refine hs.o (ok_lss .tt .tt) fun hs => wpList_nil <| then_n ?_
   refine hs.cond .tt (fun hb2 => ?_) (fun hb2 => ?_)
   ·try simp only [B] at hb2
    refine wp_skip <| then_n <| wp_seq <| wp_block <| wp_seq <| St.region <| hs.m fun hs => hs.m fun hs => ?_
    refine hs.o ((by first | exact ok_idxN un65 ty74 .tt .tt (fun _ => by omega) | exact ok_idxM un65 ty74 .tt .tt (fun _ => by omega) | exact ok_idx un65 ty74 .tt .tt (fun _ => by omega))) fun hs => ?_
    refine hs.o ((by first | exact ok_loadA ty74 .tt rfl | exact ok_loadS ty74 .tt rfl)) fun hs => ?_
    refine hs.alloc rfl ty74 zc74 fun b4 I a w hs => ?_
    refine hs.storeB 0 ty74 .tt .tt rfl (by first | rfl | assumption) rfl fun a w hs => ?_
    obtain ⟨I, hs, hf⟩ := hs.freezeBox 0 rfl
    have hs := hs.upd (t := 4) rfl hf; clear hf
    refine wpList_nil <| then_n <| wp_seq <| hs.dk <| .o (ok_fieldP fd74_0 rfl .tt) <| .o (ok_load1 ty3 .tt) <| .o (ok_call (c_spec_l2Key ..) (args_cons .tt args_nil)) <| .o (ok_not .tt) <| .o (ok_move .tt) <| .q .F (ok_fieldP fd74_1 rfl .tt) ?_
    refine .q .F ((by first | exact ok_loadA ty67 .ag rfl | exact ok_loadS ty67 .ag rfl)) ?_
    refine .q .F (ok_call (c_spec_StampOk ..) (args_cons .ag args_nil)) ?_
    refine .q .F (ok_not .ag) ?_
    refine .o (ok_or .tt .c .pc) <| .o (ok_move .tt) <| .q .F (ok_move .tt) <| .q .F (ok_gtr .ag .c) ?_
    refine .q .F (ok_move .ag) ?_
    refine .q .T2 (ok_move .tt) <| .q .T2 (ok_move .tt) ?_
    refine .q .T2 (ok_sub .ag .c (fun hg => by simp at hg; omega)) ?_
    refine .q .T2 ((by first | exact ok_idxN un65 ty74 .ag .ag (fun hg => by simp at hg; omega) | exact ok_idxM un65 ty74 .ag .ag (fun hg => by simp at hg; omega) | exact ok_idx un65 ty74 .ag .ag (fun hg => by simp at hg; omega))) ?_
    refine .q .T2 (ok_fieldP fd74_0 rfl .ag) ?_
    refine .q .T2 (ok_load1 ty3 .ag) ?_
    refine .q .T2 (ok_fieldP fd74_0 rfl .tt) <| .q .T2 (ok_load1 ty3 .ag) ?_
    refine .q .T2 (ok_gtr .ag .ag) ?_
    refine .q .T2 (ok_move .ag) ?_
    refine .q .F2 (ok_move .tt) <| .q .F2 (ok_move .tt) ?_
    refine .q .F2 (ok_sub .ag .c (fun hg => by simp at hg; omega)) ?_
    refine .q .F2 ((by first | exact ok_idxN un65 ty74 .ag .ag (fun hg => by simp at hg; omega) | exact ok_idxM un65 ty74 .ag .ag (fun hg => by simp at hg; omega) | exact ok_idx un65 ty74 .ag .ag (fun hg => by simp at hg; omega))) ?_
    refine .q .F2 (ok_fieldP fd74_0 rfl .ag) ?_
    refine .q .F2 (ok_load1 ty3 .ag) ?_
    refine .q .F2 (ok_fieldP fd74_0 rfl .tt) <| .q .F2 (ok_load1 ty3 .ag) ?_
    refine .q .F2 (ok_eqi .ag .ag) ?_
    refine .q .F2 (ok_move .ag) ?_
    refine .q .T2 (ok_move .tt) <| .q .T2 (ok_move .tt) ?_
    refine .q .T2 (ok_sub .ag .c (fun hg => by simp at hg; omega)) ?_
    refine .q .T2 ((by first | exact ok_idxN un65 ty74 .ag .ag (fun hg => by simp at hg; omega) | exact ok_idxM un65 ty74 .ag .ag (fun hg => by simp at hg; omega) | exact ok_idx un65 ty74 .ag .ag (fun hg => by simp at hg; omega))) ?_
    refine .q .T2 (ok_fieldP fd74_1 rfl .ag) ?_
    refine .q .T2 ((by first | exact ok_loadA ty67 .ag rfl | exact ok_loadS ty67 .ag rfl)) ?_
    refine .q .T2 (ok_fieldP fd74_1 rfl .tt) ?_
    refine .q .T2 ((by first | exact ok_loadA ty67 .ag rfl | exact ok_loadS ty67 .ag rfl)) ?_
    refine .q .T2 (ok_call (c_spec_StampLess ..) (args_cons .ag (args_cons .ag args_nil))) ?_
    refine .q .T2 (ok_not .ag) ?_
    refine .q .F2 (ok_and .ag .pc .c) ?_
    refine .q .T2 (ok_or .ag .c .pc) ?_
    refine .q .F (ok_and .ag .pc .c) ?_
    refine .o (ok_or .tt .c .pc) <| RunK.nil ?_
    intro I a w hs
    refine then_n ?_
    refine hs.cond .tt (fun hb3 => ?_) (fun hb3 => ?_)
    ·rw [owes_test2] at hb3; replace hb3 := nt hb3
     refine wp_seq <| St.region <| hs.sc fun hs => wpList_nil <| then_n <| wp_ret <| block_r <| then_r <| then_r <| block_r <| then_r <| hs.ret rfl (.cons (.t rfl) ResL.nil) ?_
     exact ret_bool (by unfold debtsOk; rw [allN_false (f := (linkB debtOk depLess l)) hb2 hb3]; simp)
    ·rw [owes_test2] at hb3; replace hb3 := nf hb3
     refine wp_skip <| block_n <| then_n <| St.region <| hs.m fun hs => ?_
     refine hs.o (ok_add .tt .c (fun _ => by omega)) fun hs => ?_
     refine hs.s fun hs => wpList_nil <| then_n ?_
     have hs := hs.drop 0
     refine hs.again (k + 1) ?mu1 ?ok1001 (by rfl) ?env1001 (by repeat (first | exact Env.le_rfl | refine Env.le_push rfl ?_))
     case mu1 => omega
     case ok1001 => exact ⟨by omega, allN_next hall hb3⟩
     case env1001 => exact (Env.le_consE rfl (by first | rfl | (congr 1; done)) Env.le_nil)
   ·try simp only [B] at hb2
    refine wp_exit <| then_x <| then_x <| block_hit <| then_n <| wp_seq <| St.region <| hs.sc fun hs => wpList_nil <| then_n <| wp_ret <| hs.ret rfl (.cons (.t rfl) ResL.nil) ?_
    exact ret_bool (by unfold debtsOk; rw [allN_true hall (by omega), Bool.and_true]; simp; omega)

theorem c_impl_WordOk (m : Word) (h1 : i64r m.frm) (h2 : i64r m.to) :
    Fn Tryz.prog 112 [m.av] (AV.bool (wordOk m)) := by
 refine Fn.intro 66 Tryz.func112 rfl Tryz.ntmps112 rfl (by kernel_rfl) (fun W I a hs => ?_)
 refine wp_seq <| St.region <| hs.o (ok_boxP .tt) fun hs => hs.sc fun hs => wpList_nil <| then_n <| wp_seq <| St.region <| hs.o (ok_fieldP fd137_0 rfl .tt) fun hs => hs.o (ok_load1 ty3 .tt) fun hs => hs.o (ok_call (c_impl_in ..) (args_cons .tt (args_cons .c (args_cons .c args_nil)))) fun hs => hs.m fun hs => hs.q .T (ok_fieldP fd137_1 rfl .tt) fun hs => hs.q .T (ok_load1 ty3 .ag) fun hs => ?_
 refine hs.q .T (ok_call (c_impl_isAddress _ h1) (args_cons .ag args_nil)) fun hs => ?_
 refine hs.o (ok_and .tt .pc .c) fun hs => hs.m fun hs => hs.q .T (ok_fieldP fd137_2 rfl .tt) fun hs => hs.q .T (ok_load1 ty3 .ag) fun hs => ?_
 refine hs.q .T (ok_call (c_impl_isAddress _ h2) (args_cons .ag args_nil)) fun hs => ?_
 refine hs.o (ok_and .tt .pc .c) fun hs => hs.m fun hs => hs.q .T (ok_fieldP fd137_3 rfl .tt) fun hs => hs.q .T (ok_load1 ty3 .ag) fun hs => ?_
 refine hs.q .T (ok_call (c_impl_in ..) (args_cons .ag (args_cons .c (args_cons .c args_nil)))) fun hs => ?_
 refine hs.o (ok_and .tt .pc .c) fun hs => hs.m fun hs => hs.q .T (ok_fieldP fd137_4 rfl .tt) fun hs => hs.q .T (ok_load1 ty3 .ag) fun hs => ?_
 refine hs.q .T (ok_call (c_impl_isKey ..) (args_cons .ag args_nil)) fun hs => ?_
 refine hs.o (ok_and .tt .pc .c) fun hs => hs.m fun hs => hs.q .T (ok_fieldP fd137_5 rfl .tt) fun hs => ?_
 refine hs.q .T ((by first | exact ok_loadA ty67 .ag rfl | exact ok_loadS ty67 .ag rfl)) fun hs => ?_
 refine hs.q .T (ok_call (c_impl_stampFits ..) (args_cons .ag args_nil)) fun hs => ?_
 refine hs.o (ok_and .tt .pc .c) fun hs => hs.m fun hs => hs.q .T (ok_fieldP fd137_6 rfl .tt) fun hs => hs.q .T (ok_load1 ty3 .ag) fun hs => ?_
 refine hs.q .T (ok_call (c_impl_in ..) (args_cons .ag (args_cons .c (args_cons .c args_nil)))) fun hs => ?_
 refine hs.o (ok_and .tt .pc .c) fun hs => hs.m fun hs => hs.q .T (ok_fieldP fd137_8 rfl .tt) fun hs => hs.q .T (ok_load1 ty65 .ag) fun hs => ?_
 refine hs.q .T (ok_call (c_impl_DepsOk ..) (args_cons .ag args_nil)) fun hs => ?_
 refine hs.o (ok_and .tt .pc .c) fun hs => hs.m fun hs => hs.q .T (ok_fieldP fd137_9 rfl .tt) fun hs => hs.q .T (ok_load1 ty3 .ag) fun hs => ?_
 refine hs.q .T (ok_call (c_impl_in ..) (args_cons .ag (args_cons .c (args_cons .c args_nil)))) fun hs => ?_
 refine hs.o (ok_and .tt .pc .c) fun hs => hs.m fun hs => hs.q .T (ok_fieldP fd137_10 rfl .tt) fun hs => hs.q .T (ok_load1 ty3 .ag) fun hs => ?_
 refine hs.q .T (ok_call (c_impl_in ..) (args_cons .ag (args_cons .c (args_cons .c args_nil)))) fun hs => ?_
 refine hs.o (ok_and .tt .pc .c) fun hs => hs.m fun hs => hs.q .T (ok_fieldP fd137_11 rfl .tt) fun hs => hs.q .T (ok_load1 ty48 .ag) fun hs => ?_
 refine hs.q .T (ok_call (c_impl_ChainOk ..) (args_cons .ag args_nil)) fun hs => ?_
 refine hs.o (ok_and .tt .pc .c) fun hs => hs.m fun hs => hs.q .T (ok_fieldP fd137_12 rfl .tt) fun hs => hs.q .T (ok_load1 ty48 .ag) fun hs => ?_
 refine hs.q .T (ok_call (c_impl_ChainOk ..) (args_cons .ag args_nil)) fun hs => ?_
 refine hs.o (ok_and .tt .pc .c) fun hs => hs.m fun hs => hs.q .T (ok_fieldP fd137_13 rfl .tt) fun hs => hs.q .T (ok_load1 ty65 .ag) fun hs => ?_
 refine hs.q .T (ok_call (c_impl_debtsOk ..) (args_cons .ag args_nil)) fun hs => ?_
 refine hs.o (ok_and .tt .pc .c) fun hs => hs.s fun hs => wpList_nil <| then_n <| wp_ret <| hs.ret rfl (.cons (.t rfl) ResL.nil) ?_
 rfl

theorem c_spec_WordOk (m : Word) :
    Fn Tryz.prog 97 [m.av] (AV.bool (wordOk m)) := by
 refine Fn.intro 76 Tryz.func97 rfl Tryz.ntmps97 rfl (by kernel_rfl) (fun W I a hs => ?_)
 refine wp_seq <| St.region <| hs.o (ok_boxP .tt) fun hs => hs.sc fun hs => wpList_nil <| then_n <| wp_seq <| St.region <| hs.o (ok_fieldP fd137_0 rfl .tt) fun hs => hs.o (ok_load1 ty3 .tt) fun hs => hs.o (ok_call (c_spec_l6In ..) (args_cons .tt (args_cons .c (args_cons .c args_nil)))) fun hs => hs.m fun hs => hs.q .T (ok_fieldP fd137_1 rfl .tt) fun hs => hs.q .T (ok_load1 ty3 .ag) fun hs => ?_
 refine hs.q .T (ok_call (c_spec_l1Site ..) (args_cons .ag args_nil)) fun hs => ?_
 refine hs.q .T (ok_move .ag) fun hs => ?_
 refine hs.q .F2 (ok_fieldP fd137_1 rfl .tt) fun hs => hs.q .F2 (ok_load1 ty3 .ag) fun hs => ?_
 refine hs.q .F2 (ok_call (c_spec_l11Client ..) (args_cons .ag args_nil)) fun hs => ?_
 refine hs.q .T (ok_or .ag .c .pc) fun hs => ?_
 refine hs.o (ok_and .tt .pc .c) fun hs => hs.m fun hs => hs.q .T (ok_fieldP fd137_2 rfl .tt) fun hs => hs.q .T (ok_load1 ty3 .ag) fun hs => ?_
 refine hs.q .T (ok_call (c_spec_l1Site ..) (args_cons .ag args_nil)) fun hs => ?_
 refine hs.q .T (ok_move .ag) fun hs => ?_
 refine hs.q .F2 (ok_fieldP fd137_2 rfl .tt) fun hs => hs.q .F2 (ok_load1 ty3 .ag) fun hs => ?_
 refine hs.q .F2 (ok_call (c_spec_l11Client ..) (args_cons .ag args_nil)) fun hs => ?_
 refine hs.q .T (ok_or .ag .c .pc) fun hs => ?_
 refine hs.o (ok_and .tt .pc .c) fun hs => hs.m fun hs => hs.q .T (ok_fieldP fd137_3 rfl .tt) fun hs => hs.q .T (ok_load1 ty3 .ag) fun hs => ?_
 refine hs.q .T (ok_call (c_spec_l6In ..) (args_cons .ag (args_cons .c (args_cons .c args_nil)))) fun hs => ?_
 refine hs.o (ok_and .tt .pc .c) fun hs => hs.m fun hs => hs.q .T (ok_fieldP fd137_4 rfl .tt) fun hs => hs.q .T (ok_load1 ty3 .ag) fun hs => ?_
 refine hs.q .T (ok_call (c_spec_l2Key ..) (args_cons .ag args_nil)) fun hs => ?_
 refine hs.o (ok_and .tt .pc .c) fun hs => hs.m fun hs => hs.q .T (ok_fieldP fd137_5 rfl .tt) fun hs => ?_
 refine hs.q .T ((by first | exact ok_loadA ty67 .ag rfl | exact ok_loadS ty67 .ag rfl)) fun hs => ?_
 refine hs.q .T (ok_call (c_spec_l11Stamp ..) (args_cons .ag args_nil)) fun hs => ?_
 refine hs.o (ok_and .tt .pc .c) fun hs => hs.m fun hs => hs.q .T (ok_fieldP fd137_6 rfl .tt) fun hs => hs.q .T (ok_load1 ty3 .ag) fun hs => ?_
 refine hs.q .T (ok_call (c_spec_l6In ..) (args_cons .ag (args_cons .c (args_cons .c args_nil)))) fun hs => ?_
 refine hs.o (ok_and .tt .pc .c) fun hs => hs.m fun hs => hs.q .T (ok_fieldP fd137_8 rfl .tt) fun hs => hs.q .T (ok_load1 ty65 .ag) fun hs => ?_
 refine hs.q .T (ok_call (c_spec_DepsOk ..) (args_cons .ag args_nil)) fun hs => ?_
 refine hs.o (ok_and .tt .pc .c) fun hs => hs.m fun hs => hs.q .T (ok_fieldP fd137_9 rfl .tt) fun hs => hs.q .T (ok_load1 ty3 .ag) fun hs => ?_
 refine hs.q .T (ok_call (c_spec_l6In ..) (args_cons .ag (args_cons .c (args_cons .c args_nil)))) fun hs => ?_
 refine hs.o (ok_and .tt .pc .c) fun hs => hs.m fun hs => hs.q .T (ok_fieldP fd137_10 rfl .tt) fun hs => hs.q .T (ok_load1 ty3 .ag) fun hs => ?_
 refine hs.q .T (ok_call (c_spec_l6In ..) (args_cons .ag (args_cons .c (args_cons .c args_nil)))) fun hs => ?_
 refine hs.o (ok_and .tt .pc .c) fun hs => hs.m fun hs => hs.q .T (ok_fieldP fd137_11 rfl .tt) fun hs => hs.q .T (ok_load1 ty48 .ag) fun hs => ?_
 refine hs.q .T (ok_call (c_spec_ChainOk ..) (args_cons .ag args_nil)) fun hs => ?_
 refine hs.o (ok_and .tt .pc .c) fun hs => hs.m fun hs => hs.q .T (ok_fieldP fd137_12 rfl .tt) fun hs => hs.q .T (ok_load1 ty48 .ag) fun hs => ?_
 refine hs.q .T (ok_call (c_spec_ChainOk ..) (args_cons .ag args_nil)) fun hs => ?_
 refine hs.o (ok_and .tt .pc .c) fun hs => hs.m fun hs => hs.q .T (ok_fieldP fd137_13 rfl .tt) fun hs => hs.q .T (ok_load1 ty65 .ag) fun hs => ?_
 refine hs.q .T (ok_call (c_spec_l11Owes ..) (args_cons .ag args_nil)) fun hs => ?_
 refine hs.o (ok_and .tt .pc .c) fun hs => hs.s fun hs => wpList_nil <| then_n <| wp_ret <| hs.ret rfl (.cons (.t rfl) ResL.nil) ?_
 rfl

theorem c_impl_VerSlot (n : Int) :
    Fn Tryz.prog 244 [AV.int n] (AV.int (verSlot n)) := by
 refine Fn.intro 9 Tryz.func244 rfl Tryz.ntmps244 rfl (by kernel_rfl) (fun W I a hs => ?_)
 refine wp_seq <| St.region <| hs.sc fun hs => wpList_nil <| then_n <| wp_seq <| wp_seq <| St.region <| hs.m fun hs => hs.o (ok_call (c_impl_isKey ..) (args_cons .tt args_nil)) fun hs => hs.o (ok_not .tt) fun hs => wpList_nil <| then_n ?_
 refine hs.cond .tt (fun hb1 => ?_) (fun hb1 => ?_)
 ·try simp only [B] at hb1
  refine wp_seq <| St.region <| hs.sc fun hs => wpList_nil <| then_n <| wp_ret <| then_r <| hs.ret rfl (.cons (.t rfl) ResL.nil) ?_
  exact ret_int (by simp [verSlot, hb1])
 ·try simp only [B] at hb1
  refine wp_skip <| then_n <| wp_seq <| St.region <| hs.m fun hs => ?_
  refine hs.o (ok_mul .tt .c (fun _ => by simp [keyB, inB] at hb1; omega)) fun hs => ?_
  refine hs.o (ok_quo .tt .c (fun _ => by simp [keyB, inB] at hb1; omega)) fun hs => ?_
  refine hs.s fun hs => wpList_nil <| then_n <| wp_ret <| hs.ret rfl (.cons (.t rfl) ResL.nil) ?_
  exact ret_int (by simp [verSlot, hb1])

theorem c_spec_VerSlot (n : Int) :
    Fn Tryz.prog 277 [AV.int n] (AV.int (verSlot n)) := by
 refine Fn.intro 9 Tryz.func277 rfl Tryz.ntmps277 rfl (by kernel_rfl) (fun W I a hs => ?_)
 refine wp_seq <| St.region <| hs.sc fun hs => wpList_nil <| then_n <| wp_seq <| wp_seq <| St.region <| hs.m fun hs => hs.o (ok_call (c_spec_l2Key ..) (args_cons .tt args_nil)) fun hs => hs.o (ok_not .tt) fun hs => wpList_nil <| then_n ?_
 refine hs.cond .tt (fun hb1 => ?_) (fun hb1 => ?_)
 ·try simp only [B] at hb1
  refine wp_seq <| St.region <| hs.sc fun hs => wpList_nil <| then_n <| wp_ret <| then_r <| hs.ret rfl (.cons (.t rfl) ResL.nil) ?_
  exact ret_int (by simp [verSlot, hb1])
 ·try simp only [B] at hb1
  refine wp_skip <| then_n <| wp_seq <| St.region <| hs.m fun hs => ?_
  refine hs.o (ok_mul .tt .c (fun _ => by simp [keyB, inB] at hb1; omega)) fun hs => ?_
  refine hs.o (ok_quo .tt .c (fun _ => by simp [keyB, inB] at hb1; omega)) fun hs => ?_
  refine hs.s fun hs => wpList_nil <| then_n <| wp_ret <| hs.ret rfl (.cons (.t rfl) ResL.nil) ?_
  exact ret_int (by simp [verSlot, hb1])

end Go.Proofs.YtlppgilifnkapaaGreat
