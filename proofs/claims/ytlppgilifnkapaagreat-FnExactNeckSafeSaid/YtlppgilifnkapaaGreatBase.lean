/- Walks: numbers, timestamps, versions. -/
import Derived.Test.YtlppgilifnkapaaGreatTypes
set_option linter.unusedVariables false
set_option linter.unusedSimpArgs false
set_option maxRecDepth 100000
namespace Go.Proofs.YtlppgilifnkapaaGreat
open Go Go.RowKit

theorem c_impl_in (n a b : Int) :
    Fn Tryz.prog 85 [AV.int n, AV.int a, AV.int b] (AV.bool (inB n a b)) := by
 refine Fn.intro 15 Tryz.func85 rfl Tryz.ntmps85 rfl (by kernel_rfl) (fun W I a hs => ?_)
 refine wp_seq <| St.region <| hs.sc fun hs => wpList_nil <| then_n <| wp_seq <| St.region <| hs.m fun hs => hs.m fun hs => hs.o (ok_leq .tt .tt) fun hs => hs.m fun hs => hs.q .T (ok_move .tt) fun hs => hs.q .T (ok_move .tt) fun hs => hs.q .T (ok_leq .ag .ag) fun hs => ?_
 refine hs.o (ok_and .tt .pc .c) fun hs => hs.s fun hs => wpList_nil <| then_n <| wp_ret <| hs.ret rfl (.cons (.t rfl) ResL.nil) ?_
 rfl

theorem c_spec_l6In (n a b : Int) :
    Fn Tryz.prog 83 [AV.int n, AV.int a, AV.int b] (AV.bool (inB n a b)) := by
 refine Fn.intro 15 Tryz.func83 rfl Tryz.ntmps83 rfl (by kernel_rfl) (fun W I a hs => ?_)
 refine wp_seq <| St.region <| hs.sc fun hs => wpList_nil <| then_n <| wp_seq <| St.region <| hs.m fun hs => hs.m fun hs => hs.o (ok_geq .tt .tt) fun hs => hs.m fun hs => hs.q .T (ok_move .tt) fun hs => hs.q .T (ok_move .tt) fun hs => hs.q .T (ok_leq .ag .ag) fun hs => ?_
 refine hs.o (ok_and .tt .pc .c) fun hs => hs.s fun hs => wpList_nil <| then_n <| wp_ret <| hs.ret rfl (.cons (.t rfl) ResL.nil) ?_
 exact ret_bool (by simp only [inB, ge_iff_le])

theorem c_impl_isSite (n : Int) :
    Fn Tryz.prog 185 [AV.int n] (AV.bool (siteB n)) := by
 refine Fn.intro 5 Tryz.func185 rfl Tryz.ntmps185 rfl (by kernel_rfl) (fun W I a hs => ?_)
 refine wp_seq <| St.region <| hs.sc fun hs => wpList_nil <| then_n <| wp_seq <| St.region <| hs.m fun hs => hs.o (ok_call (c_impl_in ..) (args_cons .tt (args_cons .c (args_cons .c args_nil)))) fun hs => hs.s fun hs => wpList_nil <| then_n <| wp_ret <| hs.ret rfl (.cons (.t rfl) ResL.nil) ?_
 rfl

theorem c_spec_l1Site (n : Int) :
    Fn Tryz.prog 134 [AV.int n] (AV.bool (siteB n)) := by
 refine Fn.intro 5 Tryz.func134 rfl Tryz.ntmps134 rfl (by kernel_rfl) (fun W I a hs => ?_)
 refine wp_seq <| St.region <| hs.sc fun hs => wpList_nil <| then_n <| wp_seq <| St.region <| hs.m fun hs => hs.o (ok_call (c_spec_l6In ..) (args_cons .tt (args_cons .c (args_cons .c args_nil)))) fun hs => hs.s fun hs => wpList_nil <| then_n <| wp_ret <| hs.ret rfl (.cons (.t rfl) ResL.nil) ?_
 rfl

theorem c_impl_isKey (n : Int) :
    Fn Tryz.prog 192 [AV.int n] (AV.bool (keyB n)) := by
 refine Fn.intro 5 Tryz.func192 rfl Tryz.ntmps192 rfl (by kernel_rfl) (fun W I a hs => ?_)
 refine wp_seq <| St.region <| hs.sc fun hs => wpList_nil <| then_n <| wp_seq <| St.region <| hs.m fun hs => hs.o (ok_call (c_impl_in ..) (args_cons .tt (args_cons .c (args_cons .c args_nil)))) fun hs => hs.s fun hs => wpList_nil <| then_n <| wp_ret <| hs.ret rfl (.cons (.t rfl) ResL.nil) ?_
 rfl

theorem c_spec_l2Key (n : Int) :
    Fn Tryz.prog 172 [AV.int n] (AV.bool (keyB n)) := by
 refine Fn.intro 5 Tryz.func172 rfl Tryz.ntmps172 rfl (by kernel_rfl) (fun W I a hs => ?_)
 refine wp_seq <| St.region <| hs.sc fun hs => wpList_nil <| then_n <| wp_seq <| St.region <| hs.m fun hs => hs.o (ok_call (c_spec_l6In ..) (args_cons .tt (args_cons .c (args_cons .c args_nil)))) fun hs => hs.s fun hs => wpList_nil <| then_n <| wp_ret <| hs.ret rfl (.cons (.t rfl) ResL.nil) ?_
 rfl

theorem c_impl_isClient (n : Int) :
    Fn Tryz.prog 245 [AV.int n] (AV.bool (clientB n)) := by
 refine Fn.intro 5 Tryz.func245 rfl Tryz.ntmps245 rfl (by kernel_rfl) (fun W I a hs => ?_)
 refine wp_seq <| St.region <| hs.sc fun hs => wpList_nil <| then_n <| wp_seq <| St.region <| hs.m fun hs => hs.o (ok_call (c_impl_in ..) (args_cons .tt (args_cons .c (args_cons .c args_nil)))) fun hs => hs.s fun hs => wpList_nil <| then_n <| wp_ret <| hs.ret rfl (.cons (.t rfl) ResL.nil) ?_
 rfl

theorem c_impl_StampOk (s : Stamp) :
    Fn Tryz.prog 195 [s.av] (AV.bool (stampOk s)) := by
 refine Fn.intro 11 Tryz.func195 rfl Tryz.ntmps195 rfl (by kernel_rfl) (fun W I a hs => ?_)
 refine wp_seq <| St.region <| hs.o (ok_boxP .tt) fun hs => hs.sc fun hs => wpList_nil <| then_n <| wp_seq <| St.region <| hs.o (ok_fieldP fd67_0 rfl .tt) fun hs => hs.o (ok_load1 ty3 .tt) fun hs => hs.o (ok_call (c_impl_in ..) (args_cons .tt (args_cons .c (args_cons .c args_nil)))) fun hs => hs.m fun hs => hs.q .T (ok_fieldP fd67_1 rfl .tt) fun hs => hs.q .T (ok_load1 ty3 .ag) fun hs => ?_
 refine hs.q .T (ok_call (c_impl_isSite ..) (args_cons .ag args_nil)) fun hs => ?_
 refine hs.o (ok_and .tt .pc .c) fun hs => hs.s fun hs => wpList_nil <| then_n <| wp_ret <| hs.ret rfl (.cons (.t rfl) ResL.nil) ?_
 rfl

theorem c_spec_StampOk (s : Stamp) :
    Fn Tryz.prog 174 [s.av] (AV.bool (stampOk s)) := by
 refine Fn.intro 11 Tryz.func174 rfl Tryz.ntmps174 rfl (by kernel_rfl) (fun W I a hs => ?_)
 refine wp_seq <| St.region <| hs.o (ok_boxP .tt) fun hs => hs.sc fun hs => wpList_nil <| then_n <| wp_seq <| St.region <| hs.o (ok_fieldP fd67_0 rfl .tt) fun hs => hs.o (ok_load1 ty3 .tt) fun hs => hs.o (ok_call (c_spec_l6In ..) (args_cons .tt (args_cons .c (args_cons .c args_nil)))) fun hs => hs.m fun hs => hs.q .T (ok_fieldP fd67_1 rfl .tt) fun hs => hs.q .T (ok_load1 ty3 .ag) fun hs => ?_
 refine hs.q .T (ok_call (c_spec_l1Site ..) (args_cons .ag args_nil)) fun hs => ?_
 refine hs.o (ok_and .tt .pc .c) fun hs => hs.s fun hs => wpList_nil <| then_n <| wp_ret <| hs.ret rfl (.cons (.t rfl) ResL.nil) ?_
 rfl

theorem c_impl_Stamp_none (s : Stamp) :
    Fn Tryz.prog 121 [s.av] (AV.bool (stampNone s)) := by
 refine Fn.intro 6 Tryz.func121 rfl Tryz.ntmps121 rfl (by kernel_rfl) (fun W I a hs => ?_)
 refine wp_seq <| St.region <| hs.o (ok_boxP .tt) fun hs => hs.sc fun hs => wpList_nil <| then_n <| wp_seq <| St.region ?_
 refine hs.o ((by first | exact ok_loadA ty67 .tt rfl | exact ok_loadS ty67 .tt rfl)) fun hs => ?_
 refine hs.o (ok_build (l0 := [AV.val (.int .i64 0), AV.val (.int .i64 0)]) ty67 fk67 zc67 rfl Parts.nil) fun hs => hs.o (ok_eqS [_, _] [_, _] eqt67 rfl rfl .tt .tt) fun hs => hs.s fun hs => wpList_nil <| then_n <| wp_ret <| hs.ret rfl (.cons (.t rfl) ResL.nil) ?_
 exact ret_bool (by simp [stampNone])

theorem c_spec_l11Stamp (s : Stamp) :
    Fn Tryz.prog 173 [s.av] (AV.bool (stampFits s)) := by
 refine Fn.intro 10 Tryz.func173 rfl Tryz.ntmps173 rfl (by kernel_rfl) (fun W I a hs => ?_)
 refine wp_seq <| St.region <| hs.o (ok_boxP .tt) fun hs => hs.sc fun hs => wpList_nil <| then_n <| wp_seq <| St.region ?_
 refine hs.o ((by first | exact ok_loadA ty67 .tt rfl | exact ok_loadS ty67 .tt rfl)) fun hs => ?_
 refine hs.o (ok_build (l0 := [AV.val (.int .i64 0), AV.val (.int .i64 0)]) ty67 fk67 zc67 rfl Parts.nil) fun hs => hs.o (ok_eqS [_, _] [_, _] eqt67 rfl rfl .tt .tt) fun hs => hs.m fun hs => ?_
 refine hs.q .F ((by first | exact ok_loadA ty67 .tt rfl | exact ok_loadS ty67 .tt rfl)) fun hs => ?_
 refine hs.q .F (ok_call (c_spec_StampOk ..) (args_cons .ag args_nil)) fun hs => ?_
 refine hs.o (ok_or .tt .c .pc) fun hs => hs.s fun hs => wpList_nil <| then_n <| wp_ret <| hs.ret rfl (.cons (.t rfl) ResL.nil) ?_
 exact ret_bool (by simp [stampFits, stampNone])

theorem c_impl_stampFits (s : Stamp) :
    Fn Tryz.prog 193 [s.av] (AV.bool (stampFits s)) := by
 refine Fn.intro 9 Tryz.func193 rfl Tryz.ntmps193 rfl (by kernel_rfl) (fun W I a hs => ?_)
 refine wp_seq <| St.region <| hs.o (ok_boxP .tt) fun hs => hs.sc fun hs => wpList_nil <| then_n <| wp_seq <| St.region ?_
 refine hs.o ((by first | exact ok_loadA ty67 .tt rfl | exact ok_loadS ty67 .tt rfl)) fun hs => ?_
 refine hs.o (ok_call (c_impl_Stamp_none ..) (args_cons .tt args_nil)) fun hs => hs.m fun hs => ?_
 refine hs.q .F ((by first | exact ok_loadA ty67 .tt rfl | exact ok_loadS ty67 .tt rfl)) fun hs => ?_
 refine hs.q .F (ok_call (c_impl_StampOk ..) (args_cons .ag args_nil)) fun hs => ?_
 refine hs.o (ok_or .tt .c .pc) fun hs => hs.s fun hs => wpList_nil <| then_n <| wp_ret <| hs.ret rfl (.cons (.t rfl) ResL.nil) ?_
 rfl

theorem c_impl_StampLess (s t : Stamp) :
    Fn Tryz.prog 198 [s.av, t.av] (AV.bool (stampLess s t)) := by
 refine Fn.intro 24 Tryz.func198 rfl Tryz.ntmps198 rfl (by kernel_rfl) (fun W I a hs => ?_)
 refine wp_seq <| St.region <| hs.o (ok_boxP .tt) fun hs => hs.o (ok_boxP .tt) fun hs => hs.sc fun hs => wpList_nil <| then_n <| wp_seq <| St.region <| hs.o (ok_fieldP fd67_0 rfl .tt) fun hs => hs.o (ok_load1 ty3 .tt) fun hs => hs.o (ok_fieldP fd67_0 rfl .tt) fun hs => hs.o (ok_load1 ty3 .tt) fun hs => hs.o (ok_lss .tt .tt) fun hs => hs.m fun hs => hs.q .F (ok_fieldP fd67_0 rfl .tt) fun hs => hs.q .F (ok_load1 ty3 .ag) fun hs => ?_
 refine hs.q .F (ok_fieldP fd67_0 rfl .tt) fun hs => hs.q .F (ok_load1 ty3 .ag) fun hs => ?_
 refine hs.q .F (ok_eqi .ag .ag) fun hs => ?_
 refine hs.q .F (ok_move .ag) fun hs => ?_
 refine hs.q .T2 (ok_fieldP fd67_1 rfl .tt) fun hs => hs.q .T2 (ok_load1 ty3 .ag) fun hs => ?_
 refine hs.q .T2 (ok_fieldP fd67_1 rfl .tt) fun hs => hs.q .T2 (ok_load1 ty3 .ag) fun hs => ?_
 refine hs.q .T2 (ok_lss .ag .ag) fun hs => ?_
 refine hs.q .F (ok_and .ag .pc .c) fun hs => ?_
 refine hs.o (ok_or .tt .c .pc) fun hs => hs.s fun hs => wpList_nil <| then_n <| wp_ret <| hs.ret rfl (.cons (.t rfl) ResL.nil) ?_
 rfl

theorem c_spec_StampLess (s t : Stamp) :
    Fn Tryz.prog 100 [s.av, t.av] (AV.bool (stampLess s t)) := by
 refine Fn.intro 24 Tryz.func100 rfl Tryz.ntmps100 rfl (by kernel_rfl) (fun W I a hs => ?_)
 refine wp_seq <| St.region <| hs.o (ok_boxP .tt) fun hs => hs.o (ok_boxP .tt) fun hs => hs.sc fun hs => wpList_nil <| then_n <| wp_seq <| St.region <| hs.o (ok_fieldP fd67_0 rfl .tt) fun hs => hs.o (ok_load1 ty3 .tt) fun hs => hs.o (ok_fieldP fd67_0 rfl .tt) fun hs => hs.o (ok_load1 ty3 .tt) fun hs => hs.o (ok_lss .tt .tt) fun hs => hs.m fun hs => hs.q .F (ok_fieldP fd67_0 rfl .tt) fun hs => hs.q .F (ok_load1 ty3 .ag) fun hs => ?_
 refine hs.q .F (ok_fieldP fd67_0 rfl .tt) fun hs => hs.q .F (ok_load1 ty3 .ag) fun hs => ?_
 refine hs.q .F (ok_eqi .ag .ag) fun hs => ?_
 refine hs.q .F (ok_move .ag) fun hs => ?_
 refine hs.q .T2 (ok_fieldP fd67_1 rfl .tt) fun hs => hs.q .T2 (ok_load1 ty3 .ag) fun hs => ?_
 refine hs.q .T2 (ok_fieldP fd67_1 rfl .tt) fun hs => hs.q .T2 (ok_load1 ty3 .ag) fun hs => ?_
 refine hs.q .T2 (ok_lss .ag .ag) fun hs => ?_
 refine hs.q .F (ok_and .ag .pc .c) fun hs => ?_
 refine hs.o (ok_or .tt .c .pc) fun hs => hs.s fun hs => wpList_nil <| then_n <| wp_ret <| hs.ret rfl (.cons (.t rfl) ResL.nil) ?_
 rfl

theorem c_impl_SiteSide (n : Int) :
    Fn Tryz.prog 137 [AV.int n] (AV.int (siteSide n)) := by
 refine Fn.intro 8 Tryz.func137 rfl Tryz.ntmps137 rfl (by kernel_rfl) (fun W I a hs => ?_)
 refine wp_seq <| St.region <| hs.sc fun hs => wpList_nil <| then_n <| wp_seq <| wp_seq <| St.region <| hs.m fun hs => hs.o (ok_call (c_impl_isSite ..) (args_cons .tt args_nil)) fun hs => hs.o (ok_not .tt) fun hs => wpList_nil <| then_n ?_
 refine hs.cond .tt (fun hb1 => ?_) (fun hb1 => ?_)
 ·try simp only [B] at hb1
  refine wp_seq <| St.region <| hs.sc fun hs => wpList_nil <| then_n <| wp_ret <| then_r <| hs.ret rfl (.cons (.t rfl) ResL.nil) ?_
  exact ret_int (by simp [siteSide, hb1])
 ·try simp only [B] at hb1
  refine wp_skip <| then_n <| wp_seq <| St.region <| hs.m fun hs => ?_
  refine hs.o (ok_quo .tt .c (fun _ => by simp [siteB, inB] at hb1; omega)) fun hs => ?_
  refine hs.s fun hs => wpList_nil <| then_n <| wp_ret <| hs.ret rfl (.cons (.t rfl) ResL.nil) ?_
  exact ret_int (by simp [siteSide, hb1])

theorem c_spec_SiteSide (n : Int) :
    Fn Tryz.prog 63 [AV.int n] (AV.int (siteSide n)) := by
 refine Fn.intro 8 Tryz.func63 rfl Tryz.ntmps63 rfl (by kernel_rfl) (fun W I a hs => ?_)
 refine wp_seq <| St.region <| hs.sc fun hs => wpList_nil <| then_n <| wp_seq <| wp_seq <| St.region <| hs.m fun hs => hs.o (ok_call (c_spec_l1Site ..) (args_cons .tt args_nil)) fun hs => hs.o (ok_not .tt) fun hs => wpList_nil <| then_n ?_
 refine hs.cond .tt (fun hb1 => ?_) (fun hb1 => ?_)
 ·try simp only [B] at hb1
  refine wp_seq <| St.region <| hs.sc fun hs => wpList_nil <| then_n <| wp_ret <| then_r <| hs.ret rfl (.cons (.t rfl) ResL.nil) ?_
  exact ret_int (by simp [siteSide, hb1])
 ·try simp only [B] at hb1
  refine wp_skip <| then_n <| wp_seq <| St.region <| hs.m fun hs => ?_
  refine hs.o (ok_quo .tt .c (fun _ => by simp [siteB, inB] at hb1; omega)) fun hs => ?_
  refine hs.s fun hs => wpList_nil <| then_n <| wp_ret <| hs.ret rfl (.cons (.t rfl) ResL.nil) ?_
  exact ret_int (by simp [siteSide, hb1])

theorem c_impl_DepsOk (l : List Dep) :
    Fn Tryz.prog 115 [depsAV l] (AV.bool (depsOk l)) := by
 refine Fn.intro 27 Tryz.func115 rfl Tryz.ntmps115 rfl (by kernel_rfl) (fun W I a hs => ?_)
 refine wp_seq <| St.region <| hs.sc fun hs => wpList_nil <| then_n <| wp_seq <| St.region <| hs.sc fun hs => wpList_nil <| then_n <| wp_seq <| wp_seq <| St.region <| hs.m fun hs => ?_
 refine hs.o ((by first | exact ok_lenM un65 .tt | exact ok_len un65 .tt | exact ok_lenV un65 .tt)) fun hs => ?_
 refine hs.mc fun hs => wpList_nil <| then_n <| wp_block ?_
 refine St.loopS (σ := Nat × Int) (2 :: 3 :: 5 :: 8 :: 9 :: 10 :: 11 :: 12 :: 13 :: 14 :: 15 :: 16 :: 17 :: 18 :: 19 :: 20 :: 21 :: 22 :: 23 :: 24 :: 25 :: 26 :: []) ⟨fun ⟨k, last⟩ => [(8, AV.int k), (3, AV.int last)], fun ⟨k, last⟩ => [], fun ⟨k, last⟩ => k ≤ l.length ∧ depsOk l = depsFrom last (l.drop k) ∧ -1 ≤ last ∧ last ≤ 5⟩ (fun ⟨k, last⟩ => l.length - k) (0, -1) hs rfl ?ok1 ?env1 ?round1
 case ok1 => exact ⟨by simp, rfl, by omega, by omega⟩
 case env1 => exact (Env.le_consE rfl (by rfl) (Env.le_consE rfl (by rfl) Env.le_nil))
 case round1 =>
  rintro ⟨k, last⟩ I a w hok hs
  obtain ⟨hk, hd, hl1, hl2⟩ := hok
  have hle := hs.lenleM (t := 0) rfl
  refine wp_seq <| St.region <| hs.o (ok_lss .tt .tt) fun hs => wpList_nil <| then_n <| wp_seq ?_
  refine hs.cond .tt (fun hb1 => ?_) (fun hb1 => ?_)
  ·try simp only [B] at hb1
   refine wp_skip <| then_n <| wp_seq <| wp_block <| wp_seq <| St.region ?_
   refine hs.o ((by first | exact ok_idxN un65 ty74 .tt .tt (fun _ => by omega) | exact ok_idxM un65 ty74 .tt .tt (fun _ => by omega) | exact ok_idx un65 ty74 .tt .tt (fun _ => by omega))) fun hs => ?_
   refine hs.o ((by first | exact ok_loadA ty74 .tt rfl | exact ok_loadS ty74 .tt rfl)) fun hs => ?_
   refine hs.alloc rfl ty74 zc74 fun b5 I a w hs => ?_
   refine hs.storeB 0 ty74 .tt .tt rfl (by first | rfl | assumption) rfl fun a w hs => ?_
   obtain ⟨I, hs, hf⟩ := hs.freezeBox 0 rfl
   have hs := hs.upd (t := 5) rfl hf; clear hf
   refine wpList_nil <| then_n <| wp_seq <| wp_seq <| St.region <| hs.o (ok_fieldP fd74_0 rfl .tt) fun hs => hs.o (ok_load1 ty3 .tt) fun hs => hs.m fun hs => ?_
   refine hs.o (ok_add .tt .c (fun _ => by omega)) fun hs => ?_
   refine hs.o (ok_call (c_impl_in ..) (args_cons .tt (args_cons .tt (args_cons .c args_nil)))) fun hs => hs.o (ok_not .tt) fun hs => hs.m fun hs => hs.q .F (ok_fieldP fd74_1 rfl .tt) fun hs => ?_
   refine hs.q .F ((by first | exact ok_loadA ty67 .ag rfl | exact ok_loadS ty67 .ag rfl)) fun hs => ?_
   refine hs.q .F (ok_call (c_impl_StampOk ..) (args_cons .ag args_nil)) fun hs => ?_
   refine hs.q .F (ok_not .ag) fun hs => ?_
   refine hs.o (ok_or .tt .c .pc) fun hs => wpList_nil <| then_n ?_
   refine hs.cond .tt (fun hb2 => ?_) (fun hb2 => ?_)
   ·try simp only [B] at hb2
    refine wp_seq <| St.region <| hs.sc fun hs => wpList_nil <| then_n <| wp_ret <| then_r <| block_r <| then_r <| then_r <| block_r <| then_r <| hs.ret rfl (.cons (.t rfl) ResL.nil) ?_
    exact ret_bool (by rw [hd, drop_elt hb1]; simp only [depsFrom]; rcases hb2 with h | h <;> simp [h])
   ·try simp only [B] at hb2
    refine wp_skip <| then_n <| St.region <| hs.o (ok_fieldP fd74_0 rfl .tt) fun hs => hs.o (ok_load1 ty3 .tt) fun hs => hs.s fun hs => wpList_nil <| block_n <| then_n <| St.region ?_
    refine hs.o (ok_add .tt .c (fun _ => by omega)) fun hs => ?_
    refine hs.m fun hs => wpList_nil <| then_n ?_
    have hs := hs.drop 0
    refine hs.again (k + 1, (elt l k).key) ?mu1 ?ok1001 (by rfl) ?env1001 (by repeat (first | exact Env.le_rfl | refine Env.le_push rfl ?_))
    case mu1 => simp; omega
    case ok1001 => (rw [hd, drop_elt hb1]; simp [depsFrom, hb2, inB]; simp [inB] at hb2; omega)
    case env1001 => exact (Env.le_consE rfl (by first | rfl | (congr 1; done)) (Env.le_consE rfl (by first | rfl | (congr 1; done)) Env.le_nil))
  ·try simp only [B] at hb1
   refine wp_exit <| then_x <| then_x <| block_hit <| then_n <| wp_seq <| St.region <| hs.sc fun hs => wpList_nil <| then_n <| wp_ret <| hs.ret rfl (.cons (.t rfl) ResL.nil) ?_
   exact ret_bool (by rw [hd, List.drop_eq_nil_of_le (by omega)]; rfl)


def prevKey (l : List Dep) (k : Nat) : Int := if k = 0 then -1 else (elt l (k - 1)).key
theorem prevKey_succ (l : List Dep) (k : Nat) : prevKey l (k + 1) = (elt l k).key := by simp [prevKey]
theorem depsOk_step {l : List Dep} {k : Nat} (hk : k < l.length) : depsFrom (prevKey l k) (l.drop k) = (inB (elt l k).key (prevKey l k + 1) 5 && stampOk (elt l k).stamp && depsFrom (prevKey l (k + 1)) (l.drop (k + 1))) := by
  rw [drop_elt hk, prevKey_succ]; rfl
theorem depsOk_test {l : List Dep} {k : Nat} (hp : -1 ≤ prevKey l k) : (!keyB (elt l k).key || !stampOk (elt l k).stamp || (decide (0 < (k : Int)) && decide ((elt l k).key ≤ (elt l ((k : Int) - 1).toNat).key))) = !(inB (elt l k).key (prevKey l k + 1) 5 && stampOk (elt l k).stamp) := by
  rw [show ((k : Int) - 1).toNat = k - 1 from by omega]
  rcases Nat.eq_zero_or_pos k with rfl | h
  · simp [prevKey, keyB, inB]
  · have h0 : k ≠ 0 := by omega
    have hp' : -1 ≤ (elt l (k - 1)).key := by simpa [prevKey, h0] using hp
    have h1 : (0 < (k : Int)) := by omega
    simp only [prevKey, if_neg h0, keyB, inB]
    generalize (elt l (k - 1)).key = p at *
    generalize (elt l k).key = q at *
    rw [Bool.eq_iff_iff]
    cases stampOk (elt l k).stamp <;> simp [h1] <;> omega
theorem spec_next {l : List Dep} {k : Nat} (hk : k < l.length) (hd : depsOk l = depsFrom (prevKey l k) (l.drop k)) (hp : -1 ≤ prevKey l k) (h : (inB (elt l k).key (prevKey l k + 1) 5 && stampOk (elt l k).stamp) = true) :
    k + 1 ≤ l.length ∧ depsOk l = depsFrom (prevKey l (k + 1)) (l.drop (k + 1)) ∧ -1 ≤ prevKey l (k + 1) := by
  refine ⟨hk, by rw [hd, depsOk_step hk, h, Bool.true_and], ?_⟩
  rw [prevKey_succ]
  simp [inB] at h; omega
theorem spec_bad {l : List Dep} {k : Nat} (hk : k < l.length) (hd : depsOk l = depsFrom (prevKey l k) (l.drop k)) (h : (inB (elt l k).key (prevKey l k + 1) 5 && stampOk (elt l k).stamp) = false) : false = depsOk l := by
  rw [hd, depsOk_step hk, h, Bool.false_and]

theorem c_spec_DepsOk (l : List Dep) :
    Fn Tryz.prog 98 [depsAV l] (AV.bool (depsOk l)) := by
 refine Fn.intro 44 Tryz.func98 rfl Tryz.ntmps98 rfl (by kernel_rfl) (fun W I a hs => ?_)
 have hle := hs.lenleM (t := 0) rfl
 refine wp_seq <| St.region <| hs.sc fun hs => wpList_nil <| then_n <| wp_seq <| wp_seq <| St.region <| hs.sc fun hs => wpList_nil <| then_n <| wp_block ?_
 refine St.loopS (σ := Nat) (2 :: 3 :: 4 :: 5 :: 6 :: 7 :: 8 :: 9 :: 10 :: 11 :: 12 :: 13 :: 14 :: 15 :: 16 :: 17 :: 18 :: 19 :: 20 :: 21 :: 22 :: 23 :: 24 :: 25 :: 26 :: 27 :: 28 :: 29 :: 30 :: 31 :: 32 :: 33 :: 34 :: 35 :: 36 :: 37 :: 38 :: 39 :: 40 :: 41 :: 42 :: 43 :: []) ⟨fun k => [(3, AV.int k)], fun k => [], fun k => k ≤ l.length ∧ depsOk l = depsFrom (prevKey l k) (l.drop k) ∧ -1 ≤ prevKey l k⟩ (fun k => l.length - k) 0 hs rfl ?ok1 ?env1 ?round1
 case ok1 => exact ⟨by simp, rfl, by simp [prevKey]⟩
 case env1 => exact (Env.le_consE rfl (by rfl) Env.le_nil)
 case round1 =>
  rintro k I a w hok hs
  obtain ⟨hk, hd, hp⟩ := hok
  refine wp_seq <| wp_seq <| St.region <| hs.m fun hs => hs.m fun hs => ?_
  refine hs.o ((by first | exact ok_lenM un65 .tt | exact ok_len un65 .tt | exact ok_lenV un65 .tt)) fun hs => ?_
  refine hs.o (ok_lss .tt .tt) fun hs => wpList_nil <| then_n ?_
  refine hs.cond .tt (fun hb1 => ?_) (fun hb1 => ?_)
  ·try simp only [B] at hb1
   refine wp_skip <| then_n <| wp_seq <| wp_block <| wp_seq <| hs.dk <| .o (ok_move .tt) <| .o (ok_move .tt) ?_
   refine .o ((by first | exact ok_idxN un65 ty74 .tt .tt (fun _ => by assumption) | exact ok_idxM un65 ty74 .tt .tt (fun _ => by assumption) | exact ok_idx un65 ty74 .tt .tt (fun _ => by assumption))) ?_
   refine .o (ok_fieldP fd74_0 rfl .tt) <| .o (ok_load1 ty3 .tt) <| .o (ok_call (c_spec_l2Key ..) (args_cons .tt args_nil)) <| .o (ok_not .tt) <| .o (ok_move .tt) <| .q .F (ok_move .tt) <| .q .F (ok_move .tt) ?_
   refine .q .F ((by first | exact ok_idxN un65 ty74 .ag .ag (fun hg => by assumption) | exact ok_idxM un65 ty74 .ag .ag (fun hg => by assumption) | exact ok_idx un65 ty74 .ag .ag (fun hg => by assumption))) ?_
   refine .q .F (ok_fieldP fd74_1 rfl .ag) ?_
   refine .q .F ((by first | exact ok_loadA ty67 .ag rfl | exact ok_loadS ty67 .ag rfl)) ?_
   refine .q .F (ok_call (c_spec_StampOk ..) (args_cons .ag args_nil)) ?_
   refine .q .F (ok_not .ag) ?_
   refine .o (ok_or .tt .c .pc) <| .o (ok_move .tt) <| .q .F (ok_move .tt) <| .q .F (ok_gtr .ag .c) ?_
   refine .q .F (ok_move .ag) ?_
   refine .q .T2 (ok_move .tt) <| .q .T2 (ok_move .tt) ?_
   refine .q .T2 (ok_sub .ag .c (fun hg => by simp at hg; omega)) ?_
   refine .q .T2 ((by first | exact ok_idxN un65 ty74 .ag .ag (fun hg => by simp at hg; omega) | exact ok_idxM un65 ty74 .ag .ag (fun hg => by simp at hg; omega) | exact ok_idx un65 ty74 .ag .ag (fun hg => by simp at hg; omega))) ?_
   refine .q .T2 (ok_fieldP fd74_0 rfl .ag) ?_
   refine .q .T2 (ok_load1 ty3 .ag) ?_
   refine .q .T2 (ok_move .tt) <| .q .T2 (ok_move .tt) ?_
   refine .q .T2 ((by first | exact ok_idxN un65 ty74 .ag .ag (fun hg => by assumption) | exact ok_idxM un65 ty74 .ag .ag (fun hg => by assumption) | exact ok_idx un65 ty74 .ag .ag (fun hg => by assumption))) ?_
   refine .q .T2 (ok_fieldP fd74_0 rfl .ag) ?_
   refine .q .T2 (ok_load1 ty3 .ag) ?_
   refine .q .T2 (ok_geq .ag .ag) ?_
   refine .q .F (ok_and .ag .pc .c) ?_
   refine .o (ok_or .tt .c .pc) <| RunK.nil ?_
   intro I a w hs
   refine then_n ?_
   refine hs.cond .tt (fun hb2 => ?_) (fun hb2 => ?_)
   ·rw [depsOk_test hp] at hb2; simp only [Bool.not_eq_true'] at hb2
    refine wp_seq <| St.region <| hs.sc fun hs => wpList_nil <| then_n <| wp_ret <| block_r <| then_r <| then_r <| block_r <| then_r <| hs.ret rfl (.cons (.t rfl) ResL.nil) ?_
    exact ret_bool (spec_bad hb1 hd hb2)
   ·rw [depsOk_test hp] at hb2; simp only [Bool.not_eq_false'] at hb2
    refine wp_skip <| block_n <| then_n <| St.region <| hs.m fun hs => ?_
    refine hs.o (ok_add .tt .c (fun _ => by omega)) fun hs => ?_
    refine hs.s fun hs => wpList_nil <| then_n ?_
    refine hs.again (k + 1) ?mu1 ?ok1001 (by rfl) ?env1001 (by repeat (first | exact Env.le_rfl | refine Env.le_push rfl ?_))
    case mu1 => omega
    case ok1001 => exact spec_next hb1 hd hp hb2
    case env1001 => exact (Env.le_consE rfl (by first | rfl | (congr 1; done)) Env.le_nil)
  ·try simp only [B] at hb1
   refine wp_exit <| then_x <| then_x <| block_hit <| then_n <| wp_seq <| St.region <| hs.sc fun hs => wpList_nil <| then_n <| wp_ret <| hs.ret rfl (.cons (.t rfl) ResL.nil) ?_
   exact ret_bool (by rw [hd, List.drop_eq_nil_of_le (by omega)]; rfl)

end Go.Proofs.YtlppgilifnkapaaGreat
