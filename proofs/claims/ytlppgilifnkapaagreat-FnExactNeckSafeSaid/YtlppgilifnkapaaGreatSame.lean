/- Walks: what is compared with itself is equal. -/
import Derived.Test.YtlppgilifnkapaaGreatChain
set_option linter.unusedVariables false
set_option linter.unusedSimpArgs false
set_option maxRecDepth 100000
namespace Go.Proofs.YtlppgilifnkapaaGreat
open Go Go.RowKit

set_option maxHeartbeats 4000000 in
theorem c_laws_eqStamp (x : Stamp) :
    Fn Tryz.prog 156 [x.av, x.av] (AV.bool true) := by
 refine Fn.intro 15 Tryz.func156 rfl Tryz.ntmps156 rfl (by kernel_rfl) (fun W I a hs => ?_)
 refine wp_seq <| St.region <| hs.o (ok_boxP .tt) fun hs => hs.o (ok_boxP .tt) fun hs => hs.sc fun hs => wpList_nil <| then_n <| wp_seq <| wp_seq <| St.region <| hs.o (ok_fieldP fd67_0 rfl .tt) fun hs => hs.o (ok_load1 ty3 .tt) fun hs => hs.o (ok_fieldP fd67_0 rfl .tt) fun hs => hs.o (ok_load1 ty3 .tt) fun hs => hs.o (ok_nei .tt .tt) fun hs => wpList_nil <| then_n ?_
 refine hs.cond .tt (fun hb1 => ?_) (fun hb1 => ?_)
 ·exfalso; simp at hb1
  skip
 ·skip
  refine wp_skip <| then_n <| wp_seq <| wp_seq <| St.region <| hs.o (ok_fieldP fd67_1 rfl .tt) fun hs => hs.o (ok_load1 ty3 .tt) fun hs => hs.o (ok_fieldP fd67_1 rfl .tt) fun hs => hs.o (ok_load1 ty3 .tt) fun hs => hs.o (ok_nei .tt .tt) fun hs => wpList_nil <| then_n ?_
  refine hs.cond .tt (fun hb2 => ?_) (fun hb2 => ?_)
  ·exfalso; simp at hb2
   skip
  ·skip
   refine wp_skip <| then_n <| wp_seq <| St.region <| hs.sc fun hs => wpList_nil <| then_n <| wp_ret <| hs.ret rfl (.cons (.t rfl) ResL.nil) ?_
   rfl

set_option maxHeartbeats 4000000 in
theorem c_laws_eqDep (x : Dep) :
    Fn Tryz.prog 202 [x.av, x.av] (AV.bool true) := by
 refine Fn.intro 16 Tryz.func202 rfl Tryz.ntmps202 rfl (by kernel_rfl) (fun W I a hs => ?_)
 refine wp_seq <| St.region <| hs.o (ok_boxP .tt) fun hs => hs.o (ok_boxP .tt) fun hs => hs.sc fun hs => wpList_nil <| then_n <| wp_seq <| wp_seq <| St.region <| hs.o (ok_fieldP fd74_0 rfl .tt) fun hs => hs.o (ok_load1 ty3 .tt) fun hs => hs.o (ok_fieldP fd74_0 rfl .tt) fun hs => hs.o (ok_load1 ty3 .tt) fun hs => hs.o (ok_nei .tt .tt) fun hs => wpList_nil <| then_n ?_
 refine hs.cond .tt (fun hb1 => ?_) (fun hb1 => ?_)
 ·exfalso; simp at hb1
  skip
 ·skip
  refine wp_skip <| then_n <| wp_seq <| wp_seq <| St.region <| hs.o (ok_fieldP fd74_1 rfl .tt) fun hs => ?_
  refine hs.o ((by first | exact ok_loadA ty67 .tt rfl | exact ok_loadS ty67 .tt rfl)) fun hs => ?_
  refine hs.o (ok_fieldP fd74_1 rfl .tt) fun hs => ?_
  refine hs.o ((by first | exact ok_loadA ty67 .tt rfl | exact ok_loadS ty67 .tt rfl)) fun hs => ?_
  refine hs.o (ok_call (c_laws_eqStamp ..) (args_cons .tt (args_cons .tt args_nil))) fun hs => hs.o (ok_not .tt) fun hs => wpList_nil <| then_n ?_
  refine hs.cond .tt (fun hb2 => ?_) (fun hb2 => ?_)
  ·exfalso; simp at hb2
   skip
  ·skip
   refine wp_skip <| then_n <| wp_seq <| St.region <| hs.sc fun hs => wpList_nil <| then_n <| wp_ret <| hs.ret rfl (.cons (.t rfl) ResL.nil) ?_
   rfl

theorem c_laws_eqDepS (l : List (Dep)) :
    Fn Tryz.prog 129 [depsAV l, depsAV l] (AV.bool true) := by
 refine Fn.intro 27 Tryz.func129 rfl Tryz.ntmps129 rfl (by kernel_rfl) (fun W I a hs => ?_)
 have hle := hs.lenleM (t := 0) rfl
 refine wp_seq <| St.region <| hs.sc fun hs => wpList_nil <| then_n <| wp_seq <| wp_seq <| St.region <| hs.m fun hs => ?_
 refine hs.o ((by first | exact ok_lenM un65 .tt | exact ok_len un65 .tt | exact ok_lenV un65 .tt)) fun hs => ?_
 refine hs.m fun hs => ?_
 refine hs.o ((by first | exact ok_lenM un65 .tt | exact ok_len un65 .tt | exact ok_lenV un65 .tt)) fun hs => ?_
 refine hs.o (ok_nei .tt .tt) fun hs => wpList_nil <| then_n ?_
 refine hs.cond .tt (fun hb1 => ?_) (fun hb1 => ?_)
 ·exfalso; simp at hb1
  skip
 ·skip
  refine wp_skip <| then_n <| wp_seq <| wp_seq <| St.region <| hs.sc fun hs => wpList_nil <| then_n <| wp_block ?_
  refine St.loopS (σ := Nat) (4 :: 5 :: 11 :: 12 :: 13 :: 14 :: 15 :: 16 :: 17 :: 18 :: 19 :: 20 :: 21 :: 22 :: 23 :: 24 :: 25 :: 26 :: []) ⟨fun k => [(5, AV.int k)], fun k => [], fun k => k ≤ l.length⟩ (fun k => l.length - k) 0 hs rfl ?ok1 ?env1 ?round1
  case ok1 => exact Nat.zero_le _
  case env1 => exact (Env.le_consE rfl (by rfl) Env.le_nil)
  case round1 =>
   rintro k I a w hok hs
   have hk : k ≤ l.length := hok
   refine wp_seq <| wp_seq <| St.region <| hs.m fun hs => hs.m fun hs => ?_
   refine hs.o ((by first | exact ok_lenM un65 .tt | exact ok_len un65 .tt | exact ok_lenV un65 .tt)) fun hs => ?_
   refine hs.o (ok_lss .tt .tt) fun hs => wpList_nil <| then_n ?_
   refine hs.cond .tt (fun hb2 => ?_) (fun hb2 => ?_)
   ·try simp only [B] at hb2
    refine wp_skip <| then_n <| wp_seq <| wp_block <| wp_seq <| hs.dk <| .o (ok_move .tt) <| .o (ok_move .tt) ?_
    refine .o ((by first | exact ok_idxN un65 ty74 .tt .tt (fun _ => by exact hb2) | exact ok_idxM un65 ty74 .tt .tt (fun _ => by exact hb2) | exact ok_idx un65 ty74 .tt .tt (fun _ => by exact hb2))) ?_
    refine .o ((by first | exact ok_loadA ty74 .tt rfl | exact ok_loadS ty74 .tt rfl)) ?_
    refine .o (ok_move .tt) <| .o (ok_move .tt) ?_
    refine .o ((by first | exact ok_idxN un65 ty74 .tt .tt (fun _ => by exact hb2) | exact ok_idxM un65 ty74 .tt .tt (fun _ => by exact hb2) | exact ok_idx un65 ty74 .tt .tt (fun _ => by exact hb2))) ?_
    refine .o ((by first | exact ok_loadA ty74 .tt rfl | exact ok_loadS ty74 .tt rfl)) ?_
    refine .o (ok_call (c_laws_eqDep ..) (args_cons .tt (args_cons .tt args_nil))) <| .o (ok_not .tt) <| RunK.nil ?_
    intro I a w hs
    refine then_n ?_
    refine hs.cond .tt (fun hb3 => ?_) (fun hb3 => ?_)
    ·exfalso; simp at hb3
     skip
    ·skip
     refine wp_skip <| block_n <| then_n <| St.region <| hs.m fun hs => ?_
     refine hs.o (ok_add .tt .c (fun _ => by omega)) fun hs => ?_
     refine hs.s fun hs => wpList_nil <| then_n ?_
     refine hs.again (k + 1) ?mu1 ?ok1001 (by rfl) ?env1001 (by repeat (first | exact Env.le_rfl | refine Env.le_push rfl ?_))
     case mu1 => omega
     case ok1001 => exact hb2
     case env1001 => exact (Env.le_consE rfl (by first | rfl | (congr 1; done)) Env.le_nil)
   ·try simp only [B] at hb2
    refine wp_exit <| then_x <| then_x <| block_hit <| then_n <| wp_seq <| St.region <| hs.sc fun hs => wpList_nil <| then_n <| wp_ret <| hs.ret rfl (.cons (.t rfl) ResL.nil) ?_
    rfl

theorem c_laws_eqIntS (l : List (Int)) :
    Fn Tryz.prog 200 [intsAV l, intsAV l] (AV.bool true) := by
 refine Fn.intro 26 Tryz.func200 rfl Tryz.ntmps200 rfl (by kernel_rfl) (fun W I a hs => ?_)
 have hle := hs.lenleM (t := 0) rfl
 refine wp_seq <| St.region <| hs.sc fun hs => wpList_nil <| then_n <| wp_seq <| wp_seq <| St.region <| hs.m fun hs => ?_
 refine hs.o ((by first | exact ok_lenM un64 .tt | exact ok_len un64 .tt | exact ok_lenV un64 .tt)) fun hs => ?_
 refine hs.m fun hs => ?_
 refine hs.o ((by first | exact ok_lenM un64 .tt | exact ok_len un64 .tt | exact ok_lenV un64 .tt)) fun hs => ?_
 refine hs.o (ok_nei .tt .tt) fun hs => wpList_nil <| then_n ?_
 refine hs.cond .tt (fun hb1 => ?_) (fun hb1 => ?_)
 ·exfalso; simp at hb1
  skip
 ·skip
  refine wp_skip <| then_n <| wp_seq <| wp_seq <| St.region <| hs.sc fun hs => wpList_nil <| then_n <| wp_block ?_
  refine St.loopS (σ := Nat) (4 :: 5 :: 11 :: 12 :: 13 :: 14 :: 15 :: 16 :: 17 :: 18 :: 19 :: 20 :: 21 :: 22 :: 23 :: 24 :: 25 :: []) ⟨fun k => [(5, AV.int k)], fun k => [], fun k => k ≤ l.length⟩ (fun k => l.length - k) 0 hs rfl ?ok1 ?env1 ?round1
  case ok1 => exact Nat.zero_le _
  case env1 => exact (Env.le_consE rfl (by rfl) Env.le_nil)
  case round1 =>
   rintro k I a w hok hs
   have hk : k ≤ l.length := hok
   refine wp_seq <| wp_seq <| St.region <| hs.m fun hs => hs.m fun hs => ?_
   refine hs.o ((by first | exact ok_lenM un64 .tt | exact ok_len un64 .tt | exact ok_lenV un64 .tt)) fun hs => ?_
   refine hs.o (ok_lss .tt .tt) fun hs => wpList_nil <| then_n ?_
   refine hs.cond .tt (fun hb2 => ?_) (fun hb2 => ?_)
   ·try simp only [B] at hb2
    refine wp_skip <| then_n <| wp_seq <| wp_block <| wp_seq <| hs.dk <| .o (ok_move .tt) <| .o (ok_move .tt) ?_
    refine .o ((by first | exact ok_idxN un64 ty3 .tt .tt (fun _ => by exact hb2) | exact ok_idxM un64 ty3 .tt .tt (fun _ => by exact hb2) | exact ok_idx un64 ty3 .tt .tt (fun _ => by exact hb2))) ?_
    refine .o (ok_load1 ty3 .tt) <| .o (ok_move .tt) <| .o (ok_move .tt) ?_
    refine .o ((by first | exact ok_idxN un64 ty3 .tt .tt (fun _ => by exact hb2) | exact ok_idxM un64 ty3 .tt .tt (fun _ => by exact hb2) | exact ok_idx un64 ty3 .tt .tt (fun _ => by exact hb2))) ?_
    refine .o (ok_load1 ty3 .tt) <| .o (ok_nei .tt .tt) <| RunK.nil ?_
    intro I a w hs
    refine then_n ?_
    refine hs.cond .tt (fun hb3 => ?_) (fun hb3 => ?_)
    ·exfalso; simp at hb3
     skip
    ·skip
     refine wp_skip <| block_n <| then_n <| St.region <| hs.m fun hs => ?_
     refine hs.o (ok_add .tt .c (fun _ => by omega)) fun hs => ?_
     refine hs.s fun hs => wpList_nil <| then_n ?_
     refine hs.again (k + 1) ?mu1 ?ok1001 (by rfl) ?env1001 (by repeat (first | exact Env.le_rfl | refine Env.le_push rfl ?_))
     case mu1 => omega
     case ok1001 => exact hb2
     case env1001 => exact (Env.le_consE rfl (by first | rfl | (congr 1; done)) Env.le_nil)
   ·try simp only [B] at hb2
    refine wp_exit <| then_x <| then_x <| block_hit <| then_n <| wp_seq <| St.region <| hs.sc fun hs => wpList_nil <| then_n <| wp_ret <| hs.ret rfl (.cons (.t rfl) ResL.nil) ?_
    rfl

set_option maxHeartbeats 4000000 in
theorem c_laws_eqSlot (x : Slot) :
    Fn Tryz.prog 249 [x.av, x.av] (AV.bool true) := by
 refine Fn.intro 15 Tryz.func249 rfl Tryz.ntmps249 rfl (by kernel_rfl) (fun W I a hs => ?_)
 refine wp_seq <| St.region <| hs.o (ok_boxP .tt) fun hs => hs.o (ok_boxP .tt) fun hs => hs.sc fun hs => wpList_nil <| then_n <| wp_seq <| wp_seq <| St.region <| hs.o (ok_fieldP fd91_0 rfl .tt) fun hs => hs.o (ok_load1 ty3 .tt) fun hs => hs.o (ok_fieldP fd91_0 rfl .tt) fun hs => hs.o (ok_load1 ty3 .tt) fun hs => hs.o (ok_nei .tt .tt) fun hs => wpList_nil <| then_n ?_
 refine hs.cond .tt (fun hb1 => ?_) (fun hb1 => ?_)
 ·exfalso; simp at hb1
  skip
 ·skip
  refine wp_skip <| then_n <| wp_seq <| wp_seq <| St.region <| hs.o (ok_fieldP fd91_1 rfl .tt) fun hs => hs.o (ok_load1 ty3 .tt) fun hs => hs.o (ok_fieldP fd91_1 rfl .tt) fun hs => hs.o (ok_load1 ty3 .tt) fun hs => hs.o (ok_nei .tt .tt) fun hs => wpList_nil <| then_n ?_
  refine hs.cond .tt (fun hb2 => ?_) (fun hb2 => ?_)
  ·exfalso; simp at hb2
   skip
  ·skip
   refine wp_skip <| then_n <| wp_seq <| St.region <| hs.sc fun hs => wpList_nil <| then_n <| wp_ret <| hs.ret rfl (.cons (.t rfl) ResL.nil) ?_
   rfl

theorem c_laws_eqSlotS (l : List (Slot)) :
    Fn Tryz.prog 199 [slotsAV l, slotsAV l] (AV.bool true) := by
 refine Fn.intro 27 Tryz.func199 rfl Tryz.ntmps199 rfl (by kernel_rfl) (fun W I a hs => ?_)
 have hle := hs.lenleM (t := 0) rfl
 refine wp_seq <| St.region <| hs.sc fun hs => wpList_nil <| then_n <| wp_seq <| wp_seq <| St.region <| hs.m fun hs => ?_
 refine hs.o ((by first | exact ok_lenM un87 .tt | exact ok_len un87 .tt | exact ok_lenV un87 .tt)) fun hs => ?_
 refine hs.m fun hs => ?_
 refine hs.o ((by first | exact ok_lenM un87 .tt | exact ok_len un87 .tt | exact ok_lenV un87 .tt)) fun hs => ?_
 refine hs.o (ok_nei .tt .tt) fun hs => wpList_nil <| then_n ?_
 refine hs.cond .tt (fun hb1 => ?_) (fun hb1 => ?_)
 ·exfalso; simp at hb1
  skip
 ·skip
  refine wp_skip <| then_n <| wp_seq <| wp_seq <| St.region <| hs.sc fun hs => wpList_nil <| then_n <| wp_block ?_
  refine St.loopS (σ := Nat) (4 :: 5 :: 11 :: 12 :: 13 :: 14 :: 15 :: 16 :: 17 :: 18 :: 19 :: 20 :: 21 :: 22 :: 23 :: 24 :: 25 :: 26 :: []) ⟨fun k => [(5, AV.int k)], fun k => [], fun k => k ≤ l.length⟩ (fun k => l.length - k) 0 hs rfl ?ok1 ?env1 ?round1
  case ok1 => exact Nat.zero_le _
  case env1 => exact (Env.le_consE rfl (by rfl) Env.le_nil)
  case round1 =>
   rintro k I a w hok hs
   have hk : k ≤ l.length := hok
   refine wp_seq <| wp_seq <| St.region <| hs.m fun hs => hs.m fun hs => ?_
   refine hs.o ((by first | exact ok_lenM un87 .tt | exact ok_len un87 .tt | exact ok_lenV un87 .tt)) fun hs => ?_
   refine hs.o (ok_lss .tt .tt) fun hs => wpList_nil <| then_n ?_
   refine hs.cond .tt (fun hb2 => ?_) (fun hb2 => ?_)
   ·try simp only [B] at hb2
    refine wp_skip <| then_n <| wp_seq <| wp_block <| wp_seq <| hs.dk <| .o (ok_move .tt) <| .o (ok_move .tt) ?_
    refine .o ((by first | exact ok_idxN un87 ty91 .tt .tt (fun _ => by exact hb2) | exact ok_idxM un87 ty91 .tt .tt (fun _ => by exact hb2) | exact ok_idx un87 ty91 .tt .tt (fun _ => by exact hb2))) ?_
    refine .o ((by first | exact ok_loadA ty91 .tt rfl | exact ok_loadS ty91 .tt rfl)) ?_
    refine .o (ok_move .tt) <| .o (ok_move .tt) ?_
    refine .o ((by first | exact ok_idxN un87 ty91 .tt .tt (fun _ => by exact hb2) | exact ok_idxM un87 ty91 .tt .tt (fun _ => by exact hb2) | exact ok_idx un87 ty91 .tt .tt (fun _ => by exact hb2))) ?_
    refine .o ((by first | exact ok_loadA ty91 .tt rfl | exact ok_loadS ty91 .tt rfl)) ?_
    refine .o (ok_call (c_laws_eqSlot ..) (args_cons .tt (args_cons .tt args_nil))) <| .o (ok_not .tt) <| RunK.nil ?_
    intro I a w hs
    refine then_n ?_
    refine hs.cond .tt (fun hb3 => ?_) (fun hb3 => ?_)
    ·exfalso; simp at hb3
     skip
    ·skip
     refine wp_skip <| block_n <| then_n <| St.region <| hs.m fun hs => ?_
     refine hs.o (ok_add .tt .c (fun _ => by omega)) fun hs => ?_
     refine hs.s fun hs => wpList_nil <| then_n ?_
     refine hs.again (k + 1) ?mu1 ?ok1001 (by rfl) ?env1001 (by repeat (first | exact Env.le_rfl | refine Env.le_push rfl ?_))
     case mu1 => omega
     case ok1001 => exact hb2
     case env1001 => exact (Env.le_consE rfl (by first | rfl | (congr 1; done)) Env.le_nil)
   ·try simp only [B] at hb2
    refine wp_exit <| then_x <| then_x <| block_hit <| then_n <| wp_seq <| St.region <| hs.sc fun hs => wpList_nil <| then_n <| wp_ret <| hs.ret rfl (.cons (.t rfl) ResL.nil) ?_
    rfl

set_option maxHeartbeats 4000000 in
theorem c_laws_eqVer (x : Ver) :
    Fn Tryz.prog 86 [x.av, x.av] (AV.bool true) := by
 refine Fn.intro 37 Tryz.func86 rfl Tryz.ntmps86 rfl (by kernel_rfl) (fun W I a hs => ?_)
 refine wp_seq <| St.region <| hs.o (ok_boxP .tt) fun hs => hs.o (ok_boxP .tt) fun hs => hs.sc fun hs => wpList_nil <| then_n <| wp_seq <| wp_seq <| St.region <| hs.o (ok_fieldP fd94_0 rfl .tt) fun hs => hs.o (ok_load1 ty3 .tt) fun hs => hs.o (ok_fieldP fd94_0 rfl .tt) fun hs => hs.o (ok_load1 ty3 .tt) fun hs => hs.o (ok_nei .tt .tt) fun hs => wpList_nil <| then_n ?_
 refine hs.cond .tt (fun hb1 => ?_) (fun hb1 => ?_)
 ·exfalso; simp at hb1
  skip
 ·skip
  refine wp_skip <| then_n <| wp_seq <| wp_seq <| St.region <| hs.o (ok_fieldP fd94_1 rfl .tt) fun hs => ?_
  refine hs.o ((by first | exact ok_loadA ty67 .tt rfl | exact ok_loadS ty67 .tt rfl)) fun hs => ?_
  refine hs.o (ok_fieldP fd94_1 rfl .tt) fun hs => ?_
  refine hs.o ((by first | exact ok_loadA ty67 .tt rfl | exact ok_loadS ty67 .tt rfl)) fun hs => ?_
  refine hs.o (ok_call (c_laws_eqStamp ..) (args_cons .tt (args_cons .tt args_nil))) fun hs => hs.o (ok_not .tt) fun hs => wpList_nil <| then_n ?_
  refine hs.cond .tt (fun hb2 => ?_) (fun hb2 => ?_)
  ·exfalso; simp at hb2
   skip
  ·skip
   refine wp_skip <| then_n <| wp_seq <| wp_seq <| St.region <| hs.o (ok_fieldP fd94_2 rfl .tt) fun hs => hs.o (ok_load1 ty3 .tt) fun hs => hs.o (ok_fieldP fd94_2 rfl .tt) fun hs => hs.o (ok_load1 ty3 .tt) fun hs => hs.o (ok_nei .tt .tt) fun hs => wpList_nil <| then_n ?_
   refine hs.cond .tt (fun hb3 => ?_) (fun hb3 => ?_)
   ·exfalso; simp at hb3
    skip
   ·skip
    refine wp_skip <| then_n <| wp_seq <| wp_seq <| St.region <| hs.o (ok_fieldP fd94_3 rfl .tt) fun hs => hs.o (ok_load1 ty3 .tt) fun hs => hs.o (ok_fieldP fd94_3 rfl .tt) fun hs => hs.o (ok_load1 ty3 .tt) fun hs => hs.o (ok_nei .tt .tt) fun hs => wpList_nil <| then_n ?_
    refine hs.cond .tt (fun hb4 => ?_) (fun hb4 => ?_)
    ·exfalso; simp at hb4
     skip
    ·skip
     refine wp_skip <| then_n <| wp_seq <| wp_seq <| St.region <| hs.o (ok_fieldP fd94_4 rfl .tt) fun hs => hs.o (ok_load1 ty3 .tt) fun hs => hs.o (ok_fieldP fd94_4 rfl .tt) fun hs => hs.o (ok_load1 ty3 .tt) fun hs => hs.o (ok_nei .tt .tt) fun hs => wpList_nil <| then_n ?_
     refine hs.cond .tt (fun hb5 => ?_) (fun hb5 => ?_)
     ·exfalso; simp at hb5
      skip
     ·skip
      refine wp_skip <| then_n <| wp_seq <| wp_seq <| St.region <| hs.o (ok_fieldP fd94_5 rfl .tt) fun hs => hs.o (ok_load1 ty65 .tt) fun hs => hs.o (ok_fieldP fd94_5 rfl .tt) fun hs => hs.o (ok_load1 ty65 .tt) fun hs => ?_
      refine hs.o (ok_call (c_laws_eqDepS ..) (args_cons .r (args_cons .r args_nil))) fun hs => ?_
      refine hs.o (ok_not .tt) fun hs => wpList_nil <| then_n ?_
      refine hs.cond .tt (fun hb6 => ?_) (fun hb6 => ?_)
      ·exfalso; simp at hb6
       skip
      ·skip
       refine wp_skip <| then_n <| wp_seq <| St.region <| hs.sc fun hs => wpList_nil <| then_n <| wp_ret <| hs.ret rfl (.cons (.t rfl) ResL.nil) ?_
       rfl

theorem c_laws_eqVerS (l : List (Ver)) :
    Fn Tryz.prog 28 [versAV l, versAV l] (AV.bool true) := by
 refine Fn.intro 27 Tryz.func28 rfl Tryz.ntmps28 rfl (by kernel_rfl) (fun W I a hs => ?_)
 have hle := hs.lenleM (t := 0) rfl
 refine wp_seq <| St.region <| hs.sc fun hs => wpList_nil <| then_n <| wp_seq <| wp_seq <| St.region <| hs.m fun hs => ?_
 refine hs.o ((by first | exact ok_lenM un48 .tt | exact ok_len un48 .tt | exact ok_lenV un48 .tt)) fun hs => ?_
 refine hs.m fun hs => ?_
 refine hs.o ((by first | exact ok_lenM un48 .tt | exact ok_len un48 .tt | exact ok_lenV un48 .tt)) fun hs => ?_
 refine hs.o (ok_nei .tt .tt) fun hs => wpList_nil <| then_n ?_
 refine hs.cond .tt (fun hb1 => ?_) (fun hb1 => ?_)
 ·exfalso; simp at hb1
  skip
 ·skip
  refine wp_skip <| then_n <| wp_seq <| wp_seq <| St.region <| hs.sc fun hs => wpList_nil <| then_n <| wp_block ?_
  refine St.loopS (σ := Nat) (4 :: 5 :: 11 :: 12 :: 13 :: 14 :: 15 :: 16 :: 17 :: 18 :: 19 :: 20 :: 21 :: 22 :: 23 :: 24 :: 25 :: 26 :: []) ⟨fun k => [(5, AV.int k)], fun k => [], fun k => k ≤ l.length⟩ (fun k => l.length - k) 0 hs rfl ?ok1 ?env1 ?round1
  case ok1 => exact Nat.zero_le _
  case env1 => exact (Env.le_consE rfl (by rfl) Env.le_nil)
  case round1 =>
   rintro k I a w hok hs
   have hk : k ≤ l.length := hok
   refine wp_seq <| wp_seq <| St.region <| hs.m fun hs => hs.m fun hs => ?_
   refine hs.o ((by first | exact ok_lenM un48 .tt | exact ok_len un48 .tt | exact ok_lenV un48 .tt)) fun hs => ?_
   refine hs.o (ok_lss .tt .tt) fun hs => wpList_nil <| then_n ?_
   refine hs.cond .tt (fun hb2 => ?_) (fun hb2 => ?_)
   ·try simp only [B] at hb2
    refine wp_skip <| then_n <| wp_seq <| wp_block <| wp_seq <| hs.dk <| .o (ok_move .tt) <| .o (ok_move .tt) ?_
    refine .o ((by first | exact ok_idxN un48 ty94 .tt .tt (fun _ => by exact hb2) | exact ok_idxM un48 ty94 .tt .tt (fun _ => by exact hb2) | exact ok_idx un48 ty94 .tt .tt (fun _ => by exact hb2))) ?_
    refine .o ((by first | exact ok_loadA ty94 .tt rfl | exact ok_loadS ty94 .tt rfl)) ?_
    refine .o (ok_move .tt) <| .o (ok_move .tt) ?_
    refine .o ((by first | exact ok_idxN un48 ty94 .tt .tt (fun _ => by exact hb2) | exact ok_idxM un48 ty94 .tt .tt (fun _ => by exact hb2) | exact ok_idx un48 ty94 .tt .tt (fun _ => by exact hb2))) ?_
    refine .o ((by first | exact ok_loadA ty94 .tt rfl | exact ok_loadS ty94 .tt rfl)) ?_
    refine .o (ok_call (c_laws_eqVer ..) (args_cons .tt (args_cons .tt args_nil))) <| .o (ok_not .tt) <| RunK.nil ?_
    intro I a w hs
    refine then_n ?_
    refine hs.cond .tt (fun hb3 => ?_) (fun hb3 => ?_)
    ·exfalso; simp at hb3
     skip
    ·skip
     refine wp_skip <| block_n <| then_n <| St.region <| hs.m fun hs => ?_
     refine hs.o (ok_add .tt .c (fun _ => by omega)) fun hs => ?_
     refine hs.s fun hs => wpList_nil <| then_n ?_
     refine hs.again (k + 1) ?mu1 ?ok1001 (by rfl) ?env1001 (by repeat (first | exact Env.le_rfl | refine Env.le_push rfl ?_))
     case mu1 => omega
     case ok1001 => exact hb2
     case env1001 => exact (Env.le_consE rfl (by first | rfl | (congr 1; done)) Env.le_nil)
   ·try simp only [B] at hb2
    refine wp_exit <| then_x <| then_x <| block_hit <| then_n <| wp_seq <| St.region <| hs.sc fun hs => wpList_nil <| then_n <| wp_ret <| hs.ret rfl (.cons (.t rfl) ResL.nil) ?_
    rfl

set_option maxHeartbeats 4000000 in
theorem c_laws_eqWord (x : Word) :
    Fn Tryz.prog 127 [x.av, x.av] (AV.bool true) := by
 refine Fn.intro 80 Tryz.func127 rfl Tryz.ntmps127 rfl (by kernel_rfl) (fun W I a hs => ?_)
 refine wp_seq <| St.region <| hs.o (ok_boxP .tt) fun hs => hs.o (ok_boxP .tt) fun hs => hs.sc fun hs => wpList_nil <| then_n <| wp_seq <| wp_seq <| St.region <| hs.o (ok_fieldP fd137_0 rfl .tt) fun hs => hs.o (ok_load1 ty3 .tt) fun hs => hs.o (ok_fieldP fd137_0 rfl .tt) fun hs => hs.o (ok_load1 ty3 .tt) fun hs => hs.o (ok_nei .tt .tt) fun hs => wpList_nil <| then_n ?_
 refine hs.cond .tt (fun hb1 => ?_) (fun hb1 => ?_)
 ·exfalso; simp at hb1
  skip
 ·skip
  refine wp_skip <| then_n <| wp_seq <| wp_seq <| St.region <| hs.o (ok_fieldP fd137_1 rfl .tt) fun hs => hs.o (ok_load1 ty3 .tt) fun hs => hs.o (ok_fieldP fd137_1 rfl .tt) fun hs => hs.o (ok_load1 ty3 .tt) fun hs => hs.o (ok_nei .tt .tt) fun hs => wpList_nil <| then_n ?_
  refine hs.cond .tt (fun hb2 => ?_) (fun hb2 => ?_)
  ·exfalso; simp at hb2
   skip
  ·skip
   refine wp_skip <| then_n <| wp_seq <| wp_seq <| St.region <| hs.o (ok_fieldP fd137_2 rfl .tt) fun hs => hs.o (ok_load1 ty3 .tt) fun hs => hs.o (ok_fieldP fd137_2 rfl .tt) fun hs => hs.o (ok_load1 ty3 .tt) fun hs => hs.o (ok_nei .tt .tt) fun hs => wpList_nil <| then_n ?_
   refine hs.cond .tt (fun hb3 => ?_) (fun hb3 => ?_)
   ·exfalso; simp at hb3
    skip
   ·skip
    refine wp_skip <| then_n <| wp_seq <| wp_seq <| St.region <| hs.o (ok_fieldP fd137_3 rfl .tt) fun hs => hs.o (ok_load1 ty3 .tt) fun hs => hs.o (ok_fieldP fd137_3 rfl .tt) fun hs => hs.o (ok_load1 ty3 .tt) fun hs => hs.o (ok_nei .tt .tt) fun hs => wpList_nil <| then_n ?_
    refine hs.cond .tt (fun hb4 => ?_) (fun hb4 => ?_)
    ·exfalso; simp at hb4
     skip
    ·skip
     refine wp_skip <| then_n <| wp_seq <| wp_seq <| St.region <| hs.o (ok_fieldP fd137_4 rfl .tt) fun hs => hs.o (ok_load1 ty3 .tt) fun hs => hs.o (ok_fieldP fd137_4 rfl .tt) fun hs => hs.o (ok_load1 ty3 .tt) fun hs => hs.o (ok_nei .tt .tt) fun hs => wpList_nil <| then_n ?_
     refine hs.cond .tt (fun hb5 => ?_) (fun hb5 => ?_)
     ·exfalso; simp at hb5
      skip
     ·skip
      refine wp_skip <| then_n <| wp_seq <| wp_seq <| St.region <| hs.o (ok_fieldP fd137_5 rfl .tt) fun hs => ?_
      refine hs.o ((by first | exact ok_loadA ty67 .tt rfl | exact ok_loadS ty67 .tt rfl)) fun hs => ?_
      refine hs.o (ok_fieldP fd137_5 rfl .tt) fun hs => ?_
      refine hs.o ((by first | exact ok_loadA ty67 .tt rfl | exact ok_loadS ty67 .tt rfl)) fun hs => ?_
      refine hs.o (ok_call (c_laws_eqStamp ..) (args_cons .tt (args_cons .tt args_nil))) fun hs => hs.o (ok_not .tt) fun hs => wpList_nil <| then_n ?_
      refine hs.cond .tt (fun hb6 => ?_) (fun hb6 => ?_)
      ·exfalso; simp at hb6
       skip
      ·skip
       refine wp_skip <| then_n <| wp_seq <| wp_seq <| St.region <| hs.o (ok_fieldP fd137_6 rfl .tt) fun hs => hs.o (ok_load1 ty3 .tt) fun hs => hs.o (ok_fieldP fd137_6 rfl .tt) fun hs => hs.o (ok_load1 ty3 .tt) fun hs => hs.o (ok_nei .tt .tt) fun hs => wpList_nil <| then_n ?_
       refine hs.cond .tt (fun hb7 => ?_) (fun hb7 => ?_)
       ·exfalso; simp at hb7
        skip
       ·skip
        refine wp_skip <| then_n <| wp_seq <| wp_seq <| St.region <| hs.o (ok_fieldP fd137_7 rfl .tt) fun hs => hs.o (ok_load1 ty4 .tt) fun hs => hs.o (ok_fieldP fd137_7 rfl .tt) fun hs => hs.o (ok_load1 ty4 .tt) fun hs => hs.o (ok_neb .tt .tt un4) fun hs => wpList_nil <| then_n ?_
        refine hs.cond .tt (fun hb8 => ?_) (fun hb8 => ?_)
        ·exfalso; simp at hb8
         skip
        ·skip
         refine wp_skip <| then_n <| wp_seq <| wp_seq <| St.region <| hs.o (ok_fieldP fd137_8 rfl .tt) fun hs => hs.o (ok_load1 ty65 .tt) fun hs => hs.o (ok_fieldP fd137_8 rfl .tt) fun hs => hs.o (ok_load1 ty65 .tt) fun hs => ?_
         refine hs.o (ok_call (c_laws_eqDepS ..) (args_cons .r (args_cons .r args_nil))) fun hs => ?_
         refine hs.o (ok_not .tt) fun hs => wpList_nil <| then_n ?_
         refine hs.cond .tt (fun hb9 => ?_) (fun hb9 => ?_)
         ·exfalso; simp at hb9
          skip
         ·skip
          refine wp_skip <| then_n <| wp_seq <| wp_seq <| St.region <| hs.o (ok_fieldP fd137_9 rfl .tt) fun hs => hs.o (ok_load1 ty3 .tt) fun hs => hs.o (ok_fieldP fd137_9 rfl .tt) fun hs => hs.o (ok_load1 ty3 .tt) fun hs => hs.o (ok_nei .tt .tt) fun hs => wpList_nil <| then_n ?_
          refine hs.cond .tt (fun hb10 => ?_) (fun hb10 => ?_)
          ·exfalso; simp at hb10
           skip
          ·skip
           refine wp_skip <| then_n <| wp_seq <| wp_seq <| St.region <| hs.o (ok_fieldP fd137_10 rfl .tt) fun hs => hs.o (ok_load1 ty3 .tt) fun hs => hs.o (ok_fieldP fd137_10 rfl .tt) fun hs => hs.o (ok_load1 ty3 .tt) fun hs => hs.o (ok_nei .tt .tt) fun hs => wpList_nil <| then_n ?_
           refine hs.cond .tt (fun hb11 => ?_) (fun hb11 => ?_)
           ·exfalso; simp at hb11
            skip
           ·skip
            refine wp_skip <| then_n <| wp_seq <| wp_seq <| St.region <| hs.o (ok_fieldP fd137_11 rfl .tt) fun hs => hs.o (ok_load1 ty48 .tt) fun hs => hs.o (ok_fieldP fd137_11 rfl .tt) fun hs => hs.o (ok_load1 ty48 .tt) fun hs => ?_
            refine hs.o (ok_call (c_laws_eqVerS ..) (args_cons .r (args_cons .r args_nil))) fun hs => ?_
            refine hs.o (ok_not .tt) fun hs => wpList_nil <| then_n ?_
            refine hs.cond .tt (fun hb12 => ?_) (fun hb12 => ?_)
            ·exfalso; simp at hb12
             skip
            ·skip
             refine wp_skip <| then_n <| wp_seq <| wp_seq <| St.region <| hs.o (ok_fieldP fd137_12 rfl .tt) fun hs => hs.o (ok_load1 ty48 .tt) fun hs => hs.o (ok_fieldP fd137_12 rfl .tt) fun hs => hs.o (ok_load1 ty48 .tt) fun hs => ?_
             refine hs.o (ok_call (c_laws_eqVerS ..) (args_cons .r (args_cons .r args_nil))) fun hs => ?_
             refine hs.o (ok_not .tt) fun hs => wpList_nil <| then_n ?_
             refine hs.cond .tt (fun hb13 => ?_) (fun hb13 => ?_)
             ·exfalso; simp at hb13
              skip
             ·skip
              refine wp_skip <| then_n <| wp_seq <| wp_seq <| St.region <| hs.o (ok_fieldP fd137_13 rfl .tt) fun hs => hs.o (ok_load1 ty65 .tt) fun hs => hs.o (ok_fieldP fd137_13 rfl .tt) fun hs => hs.o (ok_load1 ty65 .tt) fun hs => ?_
              refine hs.o (ok_call (c_laws_eqDepS ..) (args_cons .r (args_cons .r args_nil))) fun hs => ?_
              refine hs.o (ok_not .tt) fun hs => wpList_nil <| then_n ?_
              refine hs.cond .tt (fun hb14 => ?_) (fun hb14 => ?_)
              ·exfalso; simp at hb14
               skip
              ·skip
               refine wp_skip <| then_n <| wp_seq <| St.region <| hs.sc fun hs => wpList_nil <| then_n <| wp_ret <| hs.ret rfl (.cons (.t rfl) ResL.nil) ?_
               rfl

theorem c_laws_eqWordS (l : List (Word)) :
    Fn Tryz.prog 52 [wordsAV l, wordsAV l] (AV.bool true) := by
 refine Fn.intro 27 Tryz.func52 rfl Tryz.ntmps52 rfl (by kernel_rfl) (fun W I a hs => ?_)
 have hle := hs.lenleM (t := 0) rfl
 refine wp_seq <| St.region <| hs.sc fun hs => wpList_nil <| then_n <| wp_seq <| wp_seq <| St.region <| hs.m fun hs => ?_
 refine hs.o ((by first | exact ok_lenM un31 .tt | exact ok_len un31 .tt | exact ok_lenV un31 .tt)) fun hs => ?_
 refine hs.m fun hs => ?_
 refine hs.o ((by first | exact ok_lenM un31 .tt | exact ok_len un31 .tt | exact ok_lenV un31 .tt)) fun hs => ?_
 refine hs.o (ok_nei .tt .tt) fun hs => wpList_nil <| then_n ?_
 refine hs.cond .tt (fun hb1 => ?_) (fun hb1 => ?_)
 ·exfalso; simp at hb1
  skip
 ·skip
  refine wp_skip <| then_n <| wp_seq <| wp_seq <| St.region <| hs.sc fun hs => wpList_nil <| then_n <| wp_block ?_
  refine St.loopS (σ := Nat) (4 :: 5 :: 11 :: 12 :: 13 :: 14 :: 15 :: 16 :: 17 :: 18 :: 19 :: 20 :: 21 :: 22 :: 23 :: 24 :: 25 :: 26 :: []) ⟨fun k => [(5, AV.int k)], fun k => [], fun k => k ≤ l.length⟩ (fun k => l.length - k) 0 hs rfl ?ok1 ?env1 ?round1
  case ok1 => exact Nat.zero_le _
  case env1 => exact (Env.le_consE rfl (by rfl) Env.le_nil)
  case round1 =>
   rintro k I a w hok hs
   have hk : k ≤ l.length := hok
   refine wp_seq <| wp_seq <| St.region <| hs.m fun hs => hs.m fun hs => ?_
   refine hs.o ((by first | exact ok_lenM un31 .tt | exact ok_len un31 .tt | exact ok_lenV un31 .tt)) fun hs => ?_
   refine hs.o (ok_lss .tt .tt) fun hs => wpList_nil <| then_n ?_
   refine hs.cond .tt (fun hb2 => ?_) (fun hb2 => ?_)
   ·try simp only [B] at hb2
    refine wp_skip <| then_n <| wp_seq <| wp_block <| wp_seq <| hs.dk <| .o (ok_move .tt) <| .o (ok_move .tt) ?_
    refine .o ((by first | exact ok_idxN un31 ty137 .tt .tt (fun _ => by exact hb2) | exact ok_idxM un31 ty137 .tt .tt (fun _ => by exact hb2) | exact ok_idx un31 ty137 .tt .tt (fun _ => by exact hb2))) ?_
    refine .o ((by first | exact ok_loadA ty137 .tt rfl | exact ok_loadS ty137 .tt rfl)) ?_
    refine .o (ok_move .tt) <| .o (ok_move .tt) ?_
    refine .o ((by first | exact ok_idxN un31 ty137 .tt .tt (fun _ => by exact hb2) | exact ok_idxM un31 ty137 .tt .tt (fun _ => by exact hb2) | exact ok_idx un31 ty137 .tt .tt (fun _ => by exact hb2))) ?_
    refine .o ((by first | exact ok_loadA ty137 .tt rfl | exact ok_loadS ty137 .tt rfl)) ?_
    refine .o (ok_call (c_laws_eqWord ..) (args_cons .tt (args_cons .tt args_nil))) <| .o (ok_not .tt) <| RunK.nil ?_
    intro I a w hs
    refine then_n ?_
    refine hs.cond .tt (fun hb3 => ?_) (fun hb3 => ?_)
    ·exfalso; simp at hb3
     skip
    ·skip
     refine wp_skip <| block_n <| then_n <| St.region <| hs.m fun hs => ?_
     refine hs.o (ok_add .tt .c (fun _ => by omega)) fun hs => ?_
     refine hs.s fun hs => wpList_nil <| then_n ?_
     refine hs.again (k + 1) ?mu1 ?ok1001 (by rfl) ?env1001 (by repeat (first | exact Env.le_rfl | refine Env.le_push rfl ?_))
     case mu1 => omega
     case ok1001 => exact hb2
     case env1001 => exact (Env.le_consE rfl (by first | rfl | (congr 1; done)) Env.le_nil)
   ·try simp only [B] at hb2
    refine wp_exit <| then_x <| then_x <| block_hit <| then_n <| wp_seq <| St.region <| hs.sc fun hs => wpList_nil <| then_n <| wp_ret <| hs.ret rfl (.cons (.t rfl) ResL.nil) ?_
    rfl

set_option maxHeartbeats 4000000 in
theorem c_laws_eqServer (x : Server) :
    Fn Tryz.prog 126 [x.av, x.av] (AV.bool true) := by
 refine Fn.intro 45 Tryz.func126 rfl Tryz.ntmps126 rfl (by kernel_rfl) (fun W I a hs => ?_)
 refine wp_seq <| St.region <| hs.o (ok_boxP .tt) fun hs => hs.o (ok_boxP .tt) fun hs => hs.sc fun hs => wpList_nil <| then_n <| wp_seq <| wp_seq <| St.region <| hs.o (ok_fieldP fd89_0 rfl .tt) fun hs => hs.o (ok_load1 ty3 .tt) fun hs => hs.o (ok_fieldP fd89_0 rfl .tt) fun hs => hs.o (ok_load1 ty3 .tt) fun hs => hs.o (ok_nei .tt .tt) fun hs => wpList_nil <| then_n ?_
 refine hs.cond .tt (fun hb1 => ?_) (fun hb1 => ?_)
 ·exfalso; simp at hb1
  skip
 ·skip
  refine wp_skip <| then_n <| wp_seq <| wp_seq <| St.region <| hs.o (ok_fieldP fd89_1 rfl .tt) fun hs => hs.o (ok_load1 ty4 .tt) fun hs => hs.o (ok_fieldP fd89_1 rfl .tt) fun hs => hs.o (ok_load1 ty4 .tt) fun hs => hs.o (ok_neb .tt .tt un4) fun hs => wpList_nil <| then_n ?_
  refine hs.cond .tt (fun hb2 => ?_) (fun hb2 => ?_)
  ·exfalso; simp at hb2
   skip
  ·skip
   refine wp_skip <| then_n <| wp_seq <| wp_seq <| St.region <| hs.o (ok_fieldP fd89_2 rfl .tt) fun hs => hs.o (ok_load1 ty87 .tt) fun hs => hs.o (ok_fieldP fd89_2 rfl .tt) fun hs => hs.o (ok_load1 ty87 .tt) fun hs => ?_
   refine hs.o (ok_call (c_laws_eqSlotS ..) (args_cons .r (args_cons .r args_nil))) fun hs => ?_
   refine hs.o (ok_not .tt) fun hs => wpList_nil <| then_n ?_
   refine hs.cond .tt (fun hb3 => ?_) (fun hb3 => ?_)
   ·exfalso; simp at hb3
    skip
   ·skip
    refine wp_skip <| then_n <| wp_seq <| wp_seq <| St.region <| hs.o (ok_fieldP fd89_3 rfl .tt) fun hs => hs.o (ok_load1 ty48 .tt) fun hs => hs.o (ok_fieldP fd89_3 rfl .tt) fun hs => hs.o (ok_load1 ty48 .tt) fun hs => ?_
    refine hs.o (ok_call (c_laws_eqVerS ..) (args_cons .r (args_cons .r args_nil))) fun hs => ?_
    refine hs.o (ok_not .tt) fun hs => wpList_nil <| then_n ?_
    refine hs.cond .tt (fun hb4 => ?_) (fun hb4 => ?_)
    ·exfalso; simp at hb4
     skip
    ·skip
     refine wp_skip <| then_n <| wp_seq <| wp_seq <| St.region <| hs.o (ok_fieldP fd89_4 rfl .tt) fun hs => hs.o (ok_load1 ty48 .tt) fun hs => hs.o (ok_fieldP fd89_4 rfl .tt) fun hs => hs.o (ok_load1 ty48 .tt) fun hs => ?_
     refine hs.o (ok_call (c_laws_eqVerS ..) (args_cons .r (args_cons .r args_nil))) fun hs => ?_
     refine hs.o (ok_not .tt) fun hs => wpList_nil <| then_n ?_
     refine hs.cond .tt (fun hb5 => ?_) (fun hb5 => ?_)
     ·exfalso; simp at hb5
      skip
     ·skip
      refine wp_skip <| then_n <| wp_seq <| wp_seq <| St.region <| hs.o (ok_fieldP fd89_5 rfl .tt) fun hs => hs.o (ok_load1 ty65 .tt) fun hs => hs.o (ok_fieldP fd89_5 rfl .tt) fun hs => hs.o (ok_load1 ty65 .tt) fun hs => ?_
      refine hs.o (ok_call (c_laws_eqDepS ..) (args_cons .r (args_cons .r args_nil))) fun hs => ?_
      refine hs.o (ok_not .tt) fun hs => wpList_nil <| then_n ?_
      refine hs.cond .tt (fun hb6 => ?_) (fun hb6 => ?_)
      ·exfalso; simp at hb6
       skip
      ·skip
       refine wp_skip <| then_n <| wp_seq <| wp_seq <| St.region <| hs.o (ok_fieldP fd89_6 rfl .tt) fun hs => hs.o (ok_load1 ty65 .tt) fun hs => hs.o (ok_fieldP fd89_6 rfl .tt) fun hs => hs.o (ok_load1 ty65 .tt) fun hs => ?_
       refine hs.o (ok_call (c_laws_eqDepS ..) (args_cons .r (args_cons .r args_nil))) fun hs => ?_
       refine hs.o (ok_not .tt) fun hs => wpList_nil <| then_n ?_
       refine hs.cond .tt (fun hb7 => ?_) (fun hb7 => ?_)
       ·exfalso; simp at hb7
        skip
       ·skip
        refine wp_skip <| then_n <| wp_seq <| St.region <| hs.sc fun hs => wpList_nil <| then_n <| wp_ret <| hs.ret rfl (.cons (.t rfl) ResL.nil) ?_
        rfl

theorem c_laws_eqServerS (l : List (Server)) :
    Fn Tryz.prog 51 [serversAV l, serversAV l] (AV.bool true) := by
 refine Fn.intro 27 Tryz.func51 rfl Tryz.ntmps51 rfl (by kernel_rfl) (fun W I a hs => ?_)
 have hle := hs.lenleM (t := 0) rfl
 refine wp_seq <| St.region <| hs.sc fun hs => wpList_nil <| then_n <| wp_seq <| wp_seq <| St.region <| hs.m fun hs => ?_
 refine hs.o ((by first | exact ok_lenM un30 .tt | exact ok_len un30 .tt | exact ok_lenV un30 .tt)) fun hs => ?_
 refine hs.m fun hs => ?_
 refine hs.o ((by first | exact ok_lenM un30 .tt | exact ok_len un30 .tt | exact ok_lenV un30 .tt)) fun hs => ?_
 refine hs.o (ok_nei .tt .tt) fun hs => wpList_nil <| then_n ?_
 refine hs.cond .tt (fun hb1 => ?_) (fun hb1 => ?_)
 ·exfalso; simp at hb1
  skip
 ·skip
  refine wp_skip <| then_n <| wp_seq <| wp_seq <| St.region <| hs.sc fun hs => wpList_nil <| then_n <| wp_block ?_
  refine St.loopS (σ := Nat) (4 :: 5 :: 11 :: 12 :: 13 :: 14 :: 15 :: 16 :: 17 :: 18 :: 19 :: 20 :: 21 :: 22 :: 23 :: 24 :: 25 :: 26 :: []) ⟨fun k => [(5, AV.int k)], fun k => [], fun k => k ≤ l.length⟩ (fun k => l.length - k) 0 hs rfl ?ok1 ?env1 ?round1
  case ok1 => exact Nat.zero_le _
  case env1 => exact (Env.le_consE rfl (by rfl) Env.le_nil)
  case round1 =>
   rintro k I a w hok hs
   have hk : k ≤ l.length := hok
   refine wp_seq <| wp_seq <| St.region <| hs.m fun hs => hs.m fun hs => ?_
   refine hs.o ((by first | exact ok_lenM un30 .tt | exact ok_len un30 .tt | exact ok_lenV un30 .tt)) fun hs => ?_
   refine hs.o (ok_lss .tt .tt) fun hs => wpList_nil <| then_n ?_
   refine hs.cond .tt (fun hb2 => ?_) (fun hb2 => ?_)
   ·try simp only [B] at hb2
    refine wp_skip <| then_n <| wp_seq <| wp_block <| wp_seq <| hs.dk <| .o (ok_move .tt) <| .o (ok_move .tt) ?_
    refine .o ((by first | exact ok_idxN un30 ty89 .tt .tt (fun _ => by exact hb2) | exact ok_idxM un30 ty89 .tt .tt (fun _ => by exact hb2) | exact ok_idx un30 ty89 .tt .tt (fun _ => by exact hb2))) ?_
    refine .o ((by first | exact ok_loadA ty89 .tt rfl | exact ok_loadS ty89 .tt rfl)) ?_
    refine .o (ok_move .tt) <| .o (ok_move .tt) ?_
    refine .o ((by first | exact ok_idxN un30 ty89 .tt .tt (fun _ => by exact hb2) | exact ok_idxM un30 ty89 .tt .tt (fun _ => by exact hb2) | exact ok_idx un30 ty89 .tt .tt (fun _ => by exact hb2))) ?_
    refine .o ((by first | exact ok_loadA ty89 .tt rfl | exact ok_loadS ty89 .tt rfl)) ?_
    refine .o (ok_call (c_laws_eqServer ..) (args_cons .tt (args_cons .tt args_nil))) <| .o (ok_not .tt) <| RunK.nil ?_
    intro I a w hs
    refine then_n ?_
    refine hs.cond .tt (fun hb3 => ?_) (fun hb3 => ?_)
    ·exfalso; simp at hb3
     skip
    ·skip
     refine wp_skip <| block_n <| then_n <| St.region <| hs.m fun hs => ?_
     refine hs.o (ok_add .tt .c (fun _ => by omega)) fun hs => ?_
     refine hs.s fun hs => wpList_nil <| then_n ?_
     refine hs.again (k + 1) ?mu1 ?ok1001 (by rfl) ?env1001 (by repeat (first | exact Env.le_rfl | refine Env.le_push rfl ?_))
     case mu1 => omega
     case ok1001 => exact hb2
     case env1001 => exact (Env.le_consE rfl (by first | rfl | (congr 1; done)) Env.le_nil)
   ·try simp only [B] at hb2
    refine wp_exit <| then_x <| then_x <| block_hit <| then_n <| wp_seq <| St.region <| hs.sc fun hs => wpList_nil <| then_n <| wp_ret <| hs.ret rfl (.cons (.t rfl) ResL.nil) ?_
    rfl

set_option maxHeartbeats 4000000 in
theorem c_laws_eqAnswer (x : Answer) :
    Fn Tryz.prog 250 [x.av, x.av] (AV.bool true) := by
 refine Fn.intro 21 Tryz.func250 rfl Tryz.ntmps250 rfl (by kernel_rfl) (fun W I a hs => ?_)
 refine wp_seq <| St.region <| hs.o (ok_boxP .tt) fun hs => hs.o (ok_boxP .tt) fun hs => hs.sc fun hs => wpList_nil <| then_n <| wp_seq <| wp_seq <| St.region <| hs.o (ok_fieldP fd140_0 rfl .tt) fun hs => hs.o (ok_load1 ty3 .tt) fun hs => hs.o (ok_fieldP fd140_0 rfl .tt) fun hs => hs.o (ok_load1 ty3 .tt) fun hs => hs.o (ok_nei .tt .tt) fun hs => wpList_nil <| then_n ?_
 refine hs.cond .tt (fun hb1 => ?_) (fun hb1 => ?_)
 ·exfalso; simp at hb1
  skip
 ·skip
  refine wp_skip <| then_n <| wp_seq <| wp_seq <| St.region <| hs.o (ok_fieldP fd140_1 rfl .tt) fun hs => hs.o (ok_load1 ty4 .tt) fun hs => hs.o (ok_fieldP fd140_1 rfl .tt) fun hs => hs.o (ok_load1 ty4 .tt) fun hs => hs.o (ok_neb .tt .tt un4) fun hs => wpList_nil <| then_n ?_
  refine hs.cond .tt (fun hb2 => ?_) (fun hb2 => ?_)
  ·exfalso; simp at hb2
   skip
  ·skip
   refine wp_skip <| then_n <| wp_seq <| wp_seq <| St.region <| hs.o (ok_fieldP fd140_2 rfl .tt) fun hs => ?_
   refine hs.o ((by first | exact ok_loadA ty94 .tt rfl | exact ok_loadS ty94 .tt rfl)) fun hs => ?_
   refine hs.o (ok_fieldP fd140_2 rfl .tt) fun hs => ?_
   refine hs.o ((by first | exact ok_loadA ty94 .tt rfl | exact ok_loadS ty94 .tt rfl)) fun hs => ?_
   refine hs.o (ok_call (c_laws_eqVer ..) (args_cons .tt (args_cons .tt args_nil))) fun hs => hs.o (ok_not .tt) fun hs => wpList_nil <| then_n ?_
   refine hs.cond .tt (fun hb3 => ?_) (fun hb3 => ?_)
   ·exfalso; simp at hb3
    skip
   ·skip
    refine wp_skip <| then_n <| wp_seq <| St.region <| hs.sc fun hs => wpList_nil <| then_n <| wp_ret <| hs.ret rfl (.cons (.t rfl) ResL.nil) ?_
    rfl

theorem c_laws_eqAnswerS (l : List (Answer)) :
    Fn Tryz.prog 201 [answersAV l, answersAV l] (AV.bool true) := by
 refine Fn.intro 27 Tryz.func201 rfl Tryz.ntmps201 rfl (by kernel_rfl) (fun W I a hs => ?_)
 have hle := hs.lenleM (t := 0) rfl
 refine wp_seq <| St.region <| hs.sc fun hs => wpList_nil <| then_n <| wp_seq <| wp_seq <| St.region <| hs.m fun hs => ?_
 refine hs.o ((by first | exact ok_lenM un68 .tt | exact ok_len un68 .tt | exact ok_lenV un68 .tt)) fun hs => ?_
 refine hs.m fun hs => ?_
 refine hs.o ((by first | exact ok_lenM un68 .tt | exact ok_len un68 .tt | exact ok_lenV un68 .tt)) fun hs => ?_
 refine hs.o (ok_nei .tt .tt) fun hs => wpList_nil <| then_n ?_
 refine hs.cond .tt (fun hb1 => ?_) (fun hb1 => ?_)
 ·exfalso; simp at hb1
  skip
 ·skip
  refine wp_skip <| then_n <| wp_seq <| wp_seq <| St.region <| hs.sc fun hs => wpList_nil <| then_n <| wp_block ?_
  refine St.loopS (σ := Nat) (4 :: 5 :: 11 :: 12 :: 13 :: 14 :: 15 :: 16 :: 17 :: 18 :: 19 :: 20 :: 21 :: 22 :: 23 :: 24 :: 25 :: 26 :: []) ⟨fun k => [(5, AV.int k)], fun k => [], fun k => k ≤ l.length⟩ (fun k => l.length - k) 0 hs rfl ?ok1 ?env1 ?round1
  case ok1 => exact Nat.zero_le _
  case env1 => exact (Env.le_consE rfl (by rfl) Env.le_nil)
  case round1 =>
   rintro k I a w hok hs
   have hk : k ≤ l.length := hok
   refine wp_seq <| wp_seq <| St.region <| hs.m fun hs => hs.m fun hs => ?_
   refine hs.o ((by first | exact ok_lenM un68 .tt | exact ok_len un68 .tt | exact ok_lenV un68 .tt)) fun hs => ?_
   refine hs.o (ok_lss .tt .tt) fun hs => wpList_nil <| then_n ?_
   refine hs.cond .tt (fun hb2 => ?_) (fun hb2 => ?_)
   ·try simp only [B] at hb2
    refine wp_skip <| then_n <| wp_seq <| wp_block <| wp_seq <| hs.dk <| .o (ok_move .tt) <| .o (ok_move .tt) ?_
    refine .o ((by first | exact ok_idxN un68 ty140 .tt .tt (fun _ => by exact hb2) | exact ok_idxM un68 ty140 .tt .tt (fun _ => by exact hb2) | exact ok_idx un68 ty140 .tt .tt (fun _ => by exact hb2))) ?_
    refine .o ((by first | exact ok_loadA ty140 .tt rfl | exact ok_loadS ty140 .tt rfl)) ?_
    refine .o (ok_move .tt) <| .o (ok_move .tt) ?_
    refine .o ((by first | exact ok_idxN un68 ty140 .tt .tt (fun _ => by exact hb2) | exact ok_idxM un68 ty140 .tt .tt (fun _ => by exact hb2) | exact ok_idx un68 ty140 .tt .tt (fun _ => by exact hb2))) ?_
    refine .o ((by first | exact ok_loadA ty140 .tt rfl | exact ok_loadS ty140 .tt rfl)) ?_
    refine .o (ok_call (c_laws_eqAnswer ..) (args_cons .tt (args_cons .tt args_nil))) <| .o (ok_not .tt) <| RunK.nil ?_
    intro I a w hs
    refine then_n ?_
    refine hs.cond .tt (fun hb3 => ?_) (fun hb3 => ?_)
    ·exfalso; simp at hb3
     skip
    ·skip
     refine wp_skip <| block_n <| then_n <| St.region <| hs.m fun hs => ?_
     refine hs.o (ok_add .tt .c (fun _ => by omega)) fun hs => ?_
     refine hs.s fun hs => wpList_nil <| then_n ?_
     refine hs.again (k + 1) ?mu1 ?ok1001 (by rfl) ?env1001 (by repeat (first | exact Env.le_rfl | refine Env.le_push rfl ?_))
     case mu1 => omega
     case ok1001 => exact hb2
     case env1001 => exact (Env.le_consE rfl (by first | rfl | (congr 1; done)) Env.le_nil)
   ·try simp only [B] at hb2
    refine wp_exit <| then_x <| then_x <| block_hit <| then_n <| wp_seq <| St.region <| hs.sc fun hs => wpList_nil <| then_n <| wp_ret <| hs.ret rfl (.cons (.t rfl) ResL.nil) ?_
    rfl

set_option maxHeartbeats 4000000 in
theorem c_laws_eqCall (x : Call) :
    Fn Tryz.prog 128 [x.av, x.av] (AV.bool true) := by
 refine Fn.intro 70 Tryz.func128 rfl Tryz.ntmps128 rfl (by kernel_rfl) (fun W I a hs => ?_)
 refine wp_seq <| St.region <| hs.o (ok_boxP .tt) fun hs => hs.o (ok_boxP .tt) fun hs => hs.sc fun hs => wpList_nil <| then_n <| wp_seq <| wp_seq <| St.region <| hs.o (ok_fieldP fd70_0 rfl .tt) fun hs => hs.o (ok_load1 ty3 .tt) fun hs => hs.o (ok_fieldP fd70_0 rfl .tt) fun hs => hs.o (ok_load1 ty3 .tt) fun hs => hs.o (ok_nei .tt .tt) fun hs => wpList_nil <| then_n ?_
 refine hs.cond .tt (fun hb1 => ?_) (fun hb1 => ?_)
 ·exfalso; simp at hb1
  skip
 ·skip
  refine wp_skip <| then_n <| wp_seq <| wp_seq <| St.region <| hs.o (ok_fieldP fd70_1 rfl .tt) fun hs => hs.o (ok_load1 ty3 .tt) fun hs => hs.o (ok_fieldP fd70_1 rfl .tt) fun hs => hs.o (ok_load1 ty3 .tt) fun hs => hs.o (ok_nei .tt .tt) fun hs => wpList_nil <| then_n ?_
  refine hs.cond .tt (fun hb2 => ?_) (fun hb2 => ?_)
  ·exfalso; simp at hb2
   skip
  ·skip
   refine wp_skip <| then_n <| wp_seq <| wp_seq <| St.region <| hs.o (ok_fieldP fd70_2 rfl .tt) fun hs => hs.o (ok_load1 ty3 .tt) fun hs => hs.o (ok_fieldP fd70_2 rfl .tt) fun hs => hs.o (ok_load1 ty3 .tt) fun hs => hs.o (ok_nei .tt .tt) fun hs => wpList_nil <| then_n ?_
   refine hs.cond .tt (fun hb3 => ?_) (fun hb3 => ?_)
   ·exfalso; simp at hb3
    skip
   ·skip
    refine wp_skip <| then_n <| wp_seq <| wp_seq <| St.region <| hs.o (ok_fieldP fd70_3 rfl .tt) fun hs => hs.o (ok_load1 ty64 .tt) fun hs => hs.o (ok_fieldP fd70_3 rfl .tt) fun hs => hs.o (ok_load1 ty64 .tt) fun hs => ?_
    refine hs.o (ok_call (c_laws_eqIntS ..) (args_cons .r (args_cons .r args_nil))) fun hs => ?_
    refine hs.o (ok_not .tt) fun hs => wpList_nil <| then_n ?_
    refine hs.cond .tt (fun hb4 => ?_) (fun hb4 => ?_)
    ·exfalso; simp at hb4
     skip
    ·skip
     refine wp_skip <| then_n <| wp_seq <| wp_seq <| St.region <| hs.o (ok_fieldP fd70_4 rfl .tt) fun hs => hs.o (ok_load1 ty3 .tt) fun hs => hs.o (ok_fieldP fd70_4 rfl .tt) fun hs => hs.o (ok_load1 ty3 .tt) fun hs => hs.o (ok_nei .tt .tt) fun hs => wpList_nil <| then_n ?_
     refine hs.cond .tt (fun hb5 => ?_) (fun hb5 => ?_)
     ·exfalso; simp at hb5
      skip
     ·skip
      refine wp_skip <| then_n <| wp_seq <| wp_seq <| St.region <| hs.o (ok_fieldP fd70_5 rfl .tt) fun hs => hs.o (ok_load1 ty65 .tt) fun hs => hs.o (ok_fieldP fd70_5 rfl .tt) fun hs => hs.o (ok_load1 ty65 .tt) fun hs => ?_
      refine hs.o (ok_call (c_laws_eqDepS ..) (args_cons .r (args_cons .r args_nil))) fun hs => ?_
      refine hs.o (ok_not .tt) fun hs => wpList_nil <| then_n ?_
      refine hs.cond .tt (fun hb6 => ?_) (fun hb6 => ?_)
      ·exfalso; simp at hb6
       skip
      ·skip
       refine wp_skip <| then_n <| wp_seq <| wp_seq <| St.region <| hs.o (ok_fieldP fd70_6 rfl .tt) fun hs => hs.o (ok_load1 ty3 .tt) fun hs => hs.o (ok_fieldP fd70_6 rfl .tt) fun hs => hs.o (ok_load1 ty3 .tt) fun hs => hs.o (ok_nei .tt .tt) fun hs => wpList_nil <| then_n ?_
       refine hs.cond .tt (fun hb7 => ?_) (fun hb7 => ?_)
       ·exfalso; simp at hb7
        skip
       ·skip
        refine wp_skip <| then_n <| wp_seq <| wp_seq <| St.region <| hs.o (ok_fieldP fd70_7 rfl .tt) fun hs => hs.o (ok_load1 ty3 .tt) fun hs => hs.o (ok_fieldP fd70_7 rfl .tt) fun hs => hs.o (ok_load1 ty3 .tt) fun hs => hs.o (ok_nei .tt .tt) fun hs => wpList_nil <| then_n ?_
        refine hs.cond .tt (fun hb8 => ?_) (fun hb8 => ?_)
        ·exfalso; simp at hb8
         skip
        ·skip
         refine wp_skip <| then_n <| wp_seq <| wp_seq <| St.region <| hs.o (ok_fieldP fd70_8 rfl .tt) fun hs => hs.o (ok_load1 ty4 .tt) fun hs => hs.o (ok_fieldP fd70_8 rfl .tt) fun hs => hs.o (ok_load1 ty4 .tt) fun hs => hs.o (ok_neb .tt .tt un4) fun hs => wpList_nil <| then_n ?_
         refine hs.cond .tt (fun hb9 => ?_) (fun hb9 => ?_)
         ·exfalso; simp at hb9
          skip
         ·skip
          refine wp_skip <| then_n <| wp_seq <| wp_seq <| St.region <| hs.o (ok_fieldP fd70_9 rfl .tt) fun hs => ?_
          refine hs.o ((by first | exact ok_loadA ty67 .tt rfl | exact ok_loadS ty67 .tt rfl)) fun hs => ?_
          refine hs.o (ok_fieldP fd70_9 rfl .tt) fun hs => ?_
          refine hs.o ((by first | exact ok_loadA ty67 .tt rfl | exact ok_loadS ty67 .tt rfl)) fun hs => ?_
          refine hs.o (ok_call (c_laws_eqStamp ..) (args_cons .tt (args_cons .tt args_nil))) fun hs => hs.o (ok_not .tt) fun hs => wpList_nil <| then_n ?_
          refine hs.cond .tt (fun hb10 => ?_) (fun hb10 => ?_)
          ·exfalso; simp at hb10
           skip
          ·skip
           refine wp_skip <| then_n <| wp_seq <| wp_seq <| St.region <| hs.o (ok_fieldP fd70_10 rfl .tt) fun hs => hs.o (ok_load1 ty68 .tt) fun hs => hs.o (ok_fieldP fd70_10 rfl .tt) fun hs => hs.o (ok_load1 ty68 .tt) fun hs => ?_
           refine hs.o (ok_call (c_laws_eqAnswerS ..) (args_cons .r (args_cons .r args_nil))) fun hs => ?_
           refine hs.o (ok_not .tt) fun hs => wpList_nil <| then_n ?_
           refine hs.cond .tt (fun hb11 => ?_) (fun hb11 => ?_)
           ·exfalso; simp at hb11
            skip
           ·skip
            refine wp_skip <| then_n <| wp_seq <| wp_seq <| St.region <| hs.o (ok_fieldP fd70_11 rfl .tt) fun hs => hs.o (ok_load1 ty65 .tt) fun hs => hs.o (ok_fieldP fd70_11 rfl .tt) fun hs => hs.o (ok_load1 ty65 .tt) fun hs => ?_
            refine hs.o (ok_call (c_laws_eqDepS ..) (args_cons .r (args_cons .r args_nil))) fun hs => ?_
            refine hs.o (ok_not .tt) fun hs => wpList_nil <| then_n ?_
            refine hs.cond .tt (fun hb12 => ?_) (fun hb12 => ?_)
            ·exfalso; simp at hb12
             skip
            ·skip
             refine wp_skip <| then_n <| wp_seq <| St.region <| hs.sc fun hs => wpList_nil <| then_n <| wp_ret <| hs.ret rfl (.cons (.t rfl) ResL.nil) ?_
             rfl

theorem c_laws_eqCallS (l : List (Call)) :
    Fn Tryz.prog 53 [callsAV l, callsAV l] (AV.bool true) := by
 refine Fn.intro 27 Tryz.func53 rfl Tryz.ntmps53 rfl (by kernel_rfl) (fun W I a hs => ?_)
 have hle := hs.lenleM (t := 0) rfl
 refine wp_seq <| St.region <| hs.sc fun hs => wpList_nil <| then_n <| wp_seq <| wp_seq <| St.region <| hs.m fun hs => ?_
 refine hs.o ((by first | exact ok_lenM un32 .tt | exact ok_len un32 .tt | exact ok_lenV un32 .tt)) fun hs => ?_
 refine hs.m fun hs => ?_
 refine hs.o ((by first | exact ok_lenM un32 .tt | exact ok_len un32 .tt | exact ok_lenV un32 .tt)) fun hs => ?_
 refine hs.o (ok_nei .tt .tt) fun hs => wpList_nil <| then_n ?_
 refine hs.cond .tt (fun hb1 => ?_) (fun hb1 => ?_)
 ·exfalso; simp at hb1
  skip
 ·skip
  refine wp_skip <| then_n <| wp_seq <| wp_seq <| St.region <| hs.sc fun hs => wpList_nil <| then_n <| wp_block ?_
  refine St.loopS (σ := Nat) (4 :: 5 :: 11 :: 12 :: 13 :: 14 :: 15 :: 16 :: 17 :: 18 :: 19 :: 20 :: 21 :: 22 :: 23 :: 24 :: 25 :: 26 :: []) ⟨fun k => [(5, AV.int k)], fun k => [], fun k => k ≤ l.length⟩ (fun k => l.length - k) 0 hs rfl ?ok1 ?env1 ?round1
  case ok1 => exact Nat.zero_le _
  case env1 => exact (Env.le_consE rfl (by rfl) Env.le_nil)
  case round1 =>
   rintro k I a w hok hs
   have hk : k ≤ l.length := hok
   refine wp_seq <| wp_seq <| St.region <| hs.m fun hs => hs.m fun hs => ?_
   refine hs.o ((by first | exact ok_lenM un32 .tt | exact ok_len un32 .tt | exact ok_lenV un32 .tt)) fun hs => ?_
   refine hs.o (ok_lss .tt .tt) fun hs => wpList_nil <| then_n ?_
   refine hs.cond .tt (fun hb2 => ?_) (fun hb2 => ?_)
   ·try simp only [B] at hb2
    refine wp_skip <| then_n <| wp_seq <| wp_block <| wp_seq <| hs.dk <| .o (ok_move .tt) <| .o (ok_move .tt) ?_
    refine .o ((by first | exact ok_idxN un32 ty70 .tt .tt (fun _ => by exact hb2) | exact ok_idxM un32 ty70 .tt .tt (fun _ => by exact hb2) | exact ok_idx un32 ty70 .tt .tt (fun _ => by exact hb2))) ?_
    refine .o ((by first | exact ok_loadA ty70 .tt rfl | exact ok_loadS ty70 .tt rfl)) ?_
    refine .o (ok_move .tt) <| .o (ok_move .tt) ?_
    refine .o ((by first | exact ok_idxN un32 ty70 .tt .tt (fun _ => by exact hb2) | exact ok_idxM un32 ty70 .tt .tt (fun _ => by exact hb2) | exact ok_idx un32 ty70 .tt .tt (fun _ => by exact hb2))) ?_
    refine .o ((by first | exact ok_loadA ty70 .tt rfl | exact ok_loadS ty70 .tt rfl)) ?_
    refine .o (ok_call (c_laws_eqCall ..) (args_cons .tt (args_cons .tt args_nil))) <| .o (ok_not .tt) <| RunK.nil ?_
    intro I a w hs
    refine then_n ?_
    refine hs.cond .tt (fun hb3 => ?_) (fun hb3 => ?_)
    ·exfalso; simp at hb3
     skip
    ·skip
     refine wp_skip <| block_n <| then_n <| St.region <| hs.m fun hs => ?_
     refine hs.o (ok_add .tt .c (fun _ => by omega)) fun hs => ?_
     refine hs.s fun hs => wpList_nil <| then_n ?_
     refine hs.again (k + 1) ?mu1 ?ok1001 (by rfl) ?env1001 (by repeat (first | exact Env.le_rfl | refine Env.le_push rfl ?_))
     case mu1 => omega
     case ok1001 => exact hb2
     case env1001 => exact (Env.le_consE rfl (by first | rfl | (congr 1; done)) Env.le_nil)
   ·try simp only [B] at hb2
    refine wp_exit <| then_x <| then_x <| block_hit <| then_n <| wp_seq <| St.region <| hs.sc fun hs => wpList_nil <| then_n <| wp_ret <| hs.ret rfl (.cons (.t rfl) ResL.nil) ?_
    rfl

theorem c_laws_eqDepSS (l : List (List Dep)) :
    Fn Tryz.prog 54 [seenAV l, seenAV l] (AV.bool true) := by
 refine Fn.intro 27 Tryz.func54 rfl Tryz.ntmps54 rfl (by kernel_rfl) (fun W I a hs => ?_)
 have hle := hs.lenleM (t := 0) rfl
 refine wp_seq <| St.region <| hs.sc fun hs => wpList_nil <| then_n <| wp_seq <| wp_seq <| St.region <| hs.m fun hs => ?_
 refine hs.o ((by first | exact ok_lenM un33 .tt | exact ok_len un33 .tt | exact ok_lenV un33 .tt)) fun hs => ?_
 refine hs.m fun hs => ?_
 refine hs.o ((by first | exact ok_lenM un33 .tt | exact ok_len un33 .tt | exact ok_lenV un33 .tt)) fun hs => ?_
 refine hs.o (ok_nei .tt .tt) fun hs => wpList_nil <| then_n ?_
 refine hs.cond .tt (fun hb1 => ?_) (fun hb1 => ?_)
 ·exfalso; simp at hb1
  skip
 ·skip
  refine wp_skip <| then_n <| wp_seq <| wp_seq <| St.region <| hs.sc fun hs => wpList_nil <| then_n <| wp_block ?_
  refine St.loopS (σ := Nat) (4 :: 5 :: 11 :: 12 :: 13 :: 14 :: 15 :: 16 :: 17 :: 18 :: 19 :: 20 :: 21 :: 22 :: 23 :: 24 :: 25 :: 26 :: []) ⟨fun k => [(5, AV.int k)], fun k => [], fun k => k ≤ l.length⟩ (fun k => l.length - k) 0 hs rfl ?ok1 ?env1 ?round1
  case ok1 => exact Nat.zero_le _
  case env1 => exact (Env.le_consE rfl (by rfl) Env.le_nil)
  case round1 =>
   rintro k I a w hok hs
   have hk : k ≤ l.length := hok
   refine wp_seq <| wp_seq <| St.region <| hs.m fun hs => hs.m fun hs => ?_
   refine hs.o ((by first | exact ok_lenM un33 .tt | exact ok_len un33 .tt | exact ok_lenV un33 .tt)) fun hs => ?_
   refine hs.o (ok_lss .tt .tt) fun hs => wpList_nil <| then_n ?_
   refine hs.cond .tt (fun hb2 => ?_) (fun hb2 => ?_)
   ·try simp only [B] at hb2
    refine wp_skip <| then_n <| wp_seq <| wp_block <| wp_seq <| hs.dk <| .o (ok_move .tt) <| .o (ok_move .tt) ?_
    refine .o ((by first | exact ok_idxN un33 ty65 .tt .tt (fun _ => by exact hb2) | exact ok_idxM un33 ty65 .tt .tt (fun _ => by exact hb2) | exact ok_idx un33 ty65 .tt .tt (fun _ => by exact hb2))) ?_
    refine .o (ok_load1 ty65 .tt) <| .o (ok_move .tt) <| .o (ok_move .tt) ?_
    refine .o ((by first | exact ok_idxN un33 ty65 .tt .tt (fun _ => by exact hb2) | exact ok_idxM un33 ty65 .tt .tt (fun _ => by exact hb2) | exact ok_idx un33 ty65 .tt .tt (fun _ => by exact hb2))) ?_
    refine .o (ok_load1 ty65 .tt) ?_
    refine .o (ok_call (c_laws_eqDepS ..) (args_cons .r (args_cons .r args_nil))) ?_
    refine .o (ok_not .tt) <| RunK.nil ?_
    intro I a w hs
    refine then_n ?_
    refine hs.cond .tt (fun hb3 => ?_) (fun hb3 => ?_)
    ·exfalso; simp at hb3
     skip
    ·skip
     refine wp_skip <| block_n <| then_n <| St.region <| hs.m fun hs => ?_
     refine hs.o (ok_add .tt .c (fun _ => by omega)) fun hs => ?_
     refine hs.s fun hs => wpList_nil <| then_n ?_
     refine hs.again (k + 1) ?mu1 ?ok1001 (by rfl) ?env1001 (by repeat (first | exact Env.le_rfl | refine Env.le_push rfl ?_))
     case mu1 => omega
     case ok1001 => exact hb2
     case env1001 => exact (Env.le_consE rfl (by first | rfl | (congr 1; done)) Env.le_nil)
   ·try simp only [B] at hb2
    refine wp_exit <| then_x <| then_x <| block_hit <| then_n <| wp_seq <| St.region <| hs.sc fun hs => wpList_nil <| then_n <| wp_ret <| hs.ret rfl (.cons (.t rfl) ResL.nil) ?_
    rfl

set_option maxHeartbeats 4000000 in
theorem c_laws_eqNeck (x : Neck) :
    Fn Tryz.prog 13 [x.av, x.av] (AV.bool true) := by
 refine Fn.intro 34 Tryz.func13 rfl Tryz.ntmps13 rfl (by kernel_rfl) (fun W I a hs => ?_)
 refine wp_seq <| St.region <| hs.o (ok_boxP .tt) fun hs => hs.o (ok_boxP .tt) fun hs => hs.sc fun hs => wpList_nil <| then_n <| wp_seq <| wp_seq <| St.region <| hs.o (ok_fieldP fd35_0 rfl .tt) fun hs => hs.o (ok_load1 ty3 .tt) fun hs => hs.o (ok_fieldP fd35_0 rfl .tt) fun hs => hs.o (ok_load1 ty3 .tt) fun hs => hs.o (ok_nei .tt .tt) fun hs => wpList_nil <| then_n ?_
 refine hs.cond .tt (fun hb1 => ?_) (fun hb1 => ?_)
 ·exfalso; simp at hb1
  skip
 ·skip
  refine wp_skip <| then_n <| wp_seq <| wp_seq <| St.region <| hs.o (ok_fieldP fd35_1 rfl .tt) fun hs => hs.o (ok_load1 ty30 .tt) fun hs => hs.o (ok_fieldP fd35_1 rfl .tt) fun hs => hs.o (ok_load1 ty30 .tt) fun hs => ?_
  refine hs.o (ok_call (c_laws_eqServerS ..) (args_cons .r (args_cons .r args_nil))) fun hs => ?_
  refine hs.o (ok_not .tt) fun hs => wpList_nil <| then_n ?_
  refine hs.cond .tt (fun hb2 => ?_) (fun hb2 => ?_)
  ·exfalso; simp at hb2
   skip
  ·skip
   refine wp_skip <| then_n <| wp_seq <| wp_seq <| St.region <| hs.o (ok_fieldP fd35_2 rfl .tt) fun hs => hs.o (ok_load1 ty31 .tt) fun hs => hs.o (ok_fieldP fd35_2 rfl .tt) fun hs => hs.o (ok_load1 ty31 .tt) fun hs => ?_
   refine hs.o (ok_call (c_laws_eqWordS ..) (args_cons .r (args_cons .r args_nil))) fun hs => ?_
   refine hs.o (ok_not .tt) fun hs => wpList_nil <| then_n ?_
   refine hs.cond .tt (fun hb3 => ?_) (fun hb3 => ?_)
   ·exfalso; simp at hb3
    skip
   ·skip
    refine wp_skip <| then_n <| wp_seq <| wp_seq <| St.region <| hs.o (ok_fieldP fd35_3 rfl .tt) fun hs => hs.o (ok_load1 ty32 .tt) fun hs => hs.o (ok_fieldP fd35_3 rfl .tt) fun hs => hs.o (ok_load1 ty32 .tt) fun hs => ?_
    refine hs.o (ok_call (c_laws_eqCallS ..) (args_cons .r (args_cons .r args_nil))) fun hs => ?_
    refine hs.o (ok_not .tt) fun hs => wpList_nil <| then_n ?_
    refine hs.cond .tt (fun hb4 => ?_) (fun hb4 => ?_)
    ·exfalso; simp at hb4
     skip
    ·skip
     refine wp_skip <| then_n <| wp_seq <| wp_seq <| St.region <| hs.o (ok_fieldP fd35_4 rfl .tt) fun hs => hs.o (ok_load1 ty33 .tt) fun hs => hs.o (ok_fieldP fd35_4 rfl .tt) fun hs => hs.o (ok_load1 ty33 .tt) fun hs => ?_
     refine hs.o (ok_call (c_laws_eqDepSS ..) (args_cons .r (args_cons .r args_nil))) fun hs => ?_
     refine hs.o (ok_not .tt) fun hs => wpList_nil <| then_n ?_
     refine hs.cond .tt (fun hb5 => ?_) (fun hb5 => ?_)
     ·exfalso; simp at hb5
      skip
     ·skip
      refine wp_skip <| then_n <| wp_seq <| St.region <| hs.sc fun hs => wpList_nil <| then_n <| wp_ret <| hs.ret rfl (.cons (.t rfl) ResL.nil) ?_
      rfl

end Go.Proofs.YtlppgilifnkapaaGreat
