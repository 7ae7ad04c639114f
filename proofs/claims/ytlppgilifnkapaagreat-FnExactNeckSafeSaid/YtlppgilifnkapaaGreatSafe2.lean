/- Walks: what is safe. -/
import Derived.Test.YtlppgilifnkapaaGreatSafe1
import Derived.Test.YtlppgilifnkapaaGreatMap2
set_option linter.unusedVariables false
set_option linter.unusedSimpArgs false
set_option maxRecDepth 100000
namespace Go.Proofs.YtlppgilifnkapaaGreat
open Go Go.RowKit

theorem c_slices_Grow_impl_Ver_impl_Ver (n : Nat) (hn : n ≤ 1048576) :
    FnO Tryz.prog 212 [AV.val (.slice none 0 0), AV.int n] 94 7 [] := by
 refine FnO.intro 27 Tryz.func212 rfl Tryz.ntmps212 rfl (by kernel_rfl) (fun W I a hs => ?_)
 refine wp_seq <| St.region <| hs.sc fun hs => wpList_nil <| then_n <| wp_seq <| wp_seq <| St.region <| hs.m fun hs => hs.o (ok_lss .tt .c) fun hs => wpList_nil <| then_n ?_
 refine hs.cond .tt (fun hb1 => ?_) (fun hb1 => ?_)
 ·exfalso; simp only [B] at hb1; omega
  skip
 ·skip
  refine wp_skip <| then_n <| wp_seq <| wp_seq <| St.region <| hs.m fun hs => hs.m fun hs => hs.o (ok_capV un48 .tt) fun hs => hs.m fun hs => hs.o (ok_lenV un48 .tt) fun hs => ?_
  refine hs.o (ok_sub .tt .tt (fun _ => by omega)) fun hs => ?_
  refine hs.o (ok_sub .tt .tt (fun _ => by omega)) fun hs => ?_
  refine hs.s fun hs => wpList_nil <| then_n <| wp_seq <| St.region <| hs.m fun hs => hs.o (ok_gtr .tt .c) fun hs => wpList_nil <| then_n ?_
  refine hs.cond .tt (fun hb2 => ?_) (fun hb2 => ?_)
  ·try simp only [B] at hb2
   refine St.region <| hs.m fun hs => hs.m fun hs => hs.o (ok_capV un48 .tt) fun hs => hs.o (ok_cutNil un48 ty94 .tt .tt rfl) fun hs => hs.m fun hs => ?_
   refine hs.appendMakeNil (kk' := n) un48 un3 ty94 rfl (by decide) .tt .tt (by omega) (by omega) (by omega) (by omega) rfl fun {gb cap3 a w} hge hmx hs => ?_
   refine hs.m fun hs => hs.o (ok_lenV un48 .tt) fun hs => ?_
   refine hs.o (ok_cutH (hi := 0) un48 ty94 .tt .tt rfl (by omega) (by omega)) fun hs => ?_
   have hs := hs.closeRaw (sz := 7) (l := []) (cap := cap3) 0 rfl (by simp) (fun r hr => by simp at hr) (by simp) (by omega) hmx (by simp)
   refine hs.s fun hs => wpList_nil <| then_n <| wp_seq <| St.region <| hs.m fun hs => hs.s fun hs => wpList_nil <| then_n <| wp_ret ?_
   exact hs.retRow (r := 4) 0 rfl rfl rfl rfl
  ·try simp only [B] at hb2
   refine wp_skip <| then_n <| wp_seq <| St.region <| hs.m fun hs => hs.s fun hs => wpList_nil <| then_n <| wp_ret ?_
   obtain rfl : n = 0 := by omega
   have hs := hs.ownNil (sz := 7) 94
   exact hs.retRow (r := 4) 0 rfl rfl rfl rfl


def versCell (l : List Ver) : List AV := [versAV l]
def sumLen (ls : List (List Ver)) : Nat := (ls.map List.length).sum
theorem sumLen_succ {ls : List (List Ver)} {k : Nat} (h : k < ls.length) : sumLen (ls.take (k + 1)) = sumLen (ls.take k) + (elt ls k).length := by
  unfold sumLen; rw [take_elt h, List.map_append, List.sum_append]; simp
theorem sumLen_le : ∀ (ls : List (List Ver)) (k : Nat), sumLen (ls.take k) ≤ sumLen ls
  | [], k => by simp [sumLen]
  | x :: ls, 0 => by simp [sumLen]
  | x :: ls, k + 1 => by have := sumLen_le ls k; simp [sumLen] at *; omega
theorem flat_succ {ls : List (List Ver)} {k : Nat} (h : k < ls.length) : (ls.take (k + 1)).flatten = (ls.take k).flatten ++ elt ls k := by
  rw [take_elt h, List.flatten_append]; simp
theorem flat_len (ls : List (List Ver)) : ls.flatten.length = sumLen ls := by simp [sumLen]

set_option maxHeartbeats 4000000 in
theorem c_slices_Concat_impl_Ver_impl_Ver (ls : List (List Ver)) (h : sumLen ls ≤ 1048576) :
    Fn Tryz.prog 139 [AV.rows 1 (ls.map versCell)] (versAV ls.flatten) := by
 refine Fn.intro 36 Tryz.func139 rfl Tryz.ntmps139 rfl (by kernel_rfl) (fun W I a hs => ?_)
 have hle := hs.lenleM (t := 0) rfl
 refine wp_seq <| St.region <| hs.sc fun hs => wpList_nil <| then_n <| wp_seq <| St.region <| hs.sc fun hs => wpList_nil <| then_n <| wp_seq <| wp_seq <| St.region <| hs.m fun hs => ?_
 refine hs.o ((by first | exact ok_lenM un208 .tt | exact ok_len un208 .tt | exact ok_lenV un208 .tt)) fun hs => ?_
 refine hs.mc fun hs => wpList_nil <| then_n <| wp_block ?_
 refine St.loopS (σ := Nat) (3 :: 5 :: 11 :: 12 :: 13 :: 14 :: 15 :: 16 :: 17 :: 18 :: 19 :: 20 :: 21 :: 22 :: []) ⟨fun k => [(11, AV.int k), (3, AV.int (sumLen (ls.take k) : Nat))], fun k => [], fun k => k ≤ ls.length⟩ (fun k => ls.length - k) 0 hs rfl ?ok1 ?env1 ?round1
 case ok1 => exact Nat.zero_le _
 case env1 => exact (Env.le_consE rfl (by rfl) (Env.le_consE rfl (by rfl) Env.le_nil))
 case round1 =>
  rintro k I a w hok hs
  have hk : k ≤ ls.length := hok
  refine wp_seq <| St.region <| hs.o (ok_lss .tt .tt) fun hs => wpList_nil <| then_n <| wp_seq ?_
  refine hs.cond .tt (fun hb1 => ?_) (fun hb1 => ?_)
  ·try simp only [B] at hb1
   refine wp_skip <| then_n <| wp_seq <| wp_block <| wp_seq <| St.region ?_
   refine hs.o ((by first | exact ok_idxN un208 ty48 .tt .tt (fun _ => by exact hb1) | exact ok_idxM un208 ty48 .tt .tt (fun _ => by exact hb1) | exact ok_idx un208 ty48 .tt .tt (fun _ => by exact hb1))) fun hs => ?_
   refine hs.o (ok_load1 ty48 .tt) fun hs => hs.s fun hs => wpList_nil <| then_n <| wp_seq <| St.region <| hs.m fun hs => hs.m fun hs => ?_
   refine hs.o ((by first | exact ok_lenM un48 .tt | exact ok_len un48 .tt | exact ok_lenV un48 .tt)) fun hs => ?_
   refine hs.o (ok_add .tt .tt (fun _ => by have := sumLen_succ hb1; have := sumLen_le ls (k + 1); omega)) fun hs => ?_
   refine hs.s fun hs => wpList_nil <| then_n <| wp_seq <| St.region <| hs.m fun hs => hs.o (ok_lss .tt .c) fun hs => wpList_nil <| then_n ?_
   refine hs.cond .tt (fun hb2 => ?_) (fun hb2 => ?_)
   ·exfalso; simp only [B] at hb2; omega
    skip
   ·skip
    refine wp_skip <| block_n <| then_n <| St.region ?_
    refine hs.o (ok_add .tt .c (fun _ => by omega)) fun hs => ?_
    refine hs.m fun hs => wpList_nil <| then_n ?_
    refine hs.again (k + 1) ?mu1 ?ok1001 (by rfl) ?env1001 (by repeat (first | exact Env.le_rfl | refine Env.le_push rfl ?_))
    case mu1 => omega
    case ok1001 => exact hb1
    case env1001 => exact (Env.le_consE rfl (by rfl) (Env.le_consE rfl (by exact congrArg AV.int (by rw [sumLen_succ hb1]; push_cast; rfl)) Env.le_nil))
  ·try simp only [B] at hb1
   refine wp_exit <| then_x <| then_x <| block_hit <| then_n <| wp_seq <| St.region <| hs.m fun hs => ?_
   refine hs.callO (c_slices_Grow_impl_Ver_impl_Ver (sumLen (ls.take k)) (by have := sumLen_le ls k; omega)) (args_cons .c (args_cons .tt args_nil)) rfl fun I v24 a w hs => ?_
   refine hs.s fun hs => wpList_nil <| then_n <| wp_seq <| wp_seq <| St.region <| hs.m fun hs => ?_
   refine hs.o ((by first | exact ok_lenM un208 .tt | exact ok_len un208 .tt | exact ok_lenV un208 .tt)) fun hs => ?_
   refine hs.mc fun hs => wpList_nil <| then_n <| wp_block ?_
   refine St.loopS (σ := Nat × Value) (6 :: 8 :: 27 :: 28 :: 29 :: 30 :: 31 :: 32 :: 33 :: 34 :: []) ⟨fun ⟨k2, v⟩ => [(27, AV.int k2), (6, AV.val v)], fun ⟨k2, v⟩ => [Own.row v 94 7 ((ls.take k2).flatten.map Ver.cells)], fun ⟨k2, v⟩ => k2 ≤ ls.length⟩ (fun ⟨k2, v⟩ => ls.length - k2) (0, v24) hs rfl ?ok2 ?env2 ?round2
   case ok2 => exact Nat.zero_le _
   case env2 => exact (Env.le_consE rfl (by rfl) (Env.le_consE rfl (by rfl) Env.le_nil))
   case round2 =>
    rintro ⟨k2, v⟩ I a w hok hs
    have hk2 : k2 ≤ ls.length := hok
    change St _ _ [Own.row v 94 7 ((ls.take k2).flatten.map Ver.cells)] _ _ _ at hs
    refine wp_seq <| St.region <| hs.o (ok_lss .tt .tt) fun hs => wpList_nil <| then_n <| wp_seq ?_
    refine hs.cond .tt (fun hb3 => ?_) (fun hb3 => ?_)
    ·try simp only [B] at hb3
     refine wp_skip <| then_n <| wp_seq <| wp_block <| wp_seq <| St.region ?_
     refine hs.o ((by first | exact ok_idxN un208 ty48 .tt .tt (fun _ => by exact hb3) | exact ok_idxM un208 ty48 .tt .tt (fun _ => by exact hb3) | exact ok_idx un208 ty48 .tt .tt (fun _ => by exact hb3))) fun hs => ?_
     refine hs.o (ok_load1 ty48 .tt) fun hs => hs.s fun hs => wpList_nil <| then_n <| St.region <| hs.m fun hs => hs.m fun hs => ?_
     refine hs.append 0 rfl un48 ty94 rfl .tt .r rfl (by have h1 := sumLen_succ hb3; have h2 := sumLen_le ls (k2 + 1); have h3 := flat_len (ls.take k2); simp only [List.length_map]; omega) fun v33 a w hs => ?_
     rw [← List.map_append, ← flat_succ hb3] at hs
     refine hs.s fun hs => wpList_nil <| block_n <| then_n <| St.region ?_
     refine hs.o (ok_add .tt .c (fun _ => by omega)) fun hs => ?_
     refine hs.m fun hs => wpList_nil <| then_n ?_
     refine hs.again (k2 + 1, v33) ?mu2 ?ok1002 (by rfl) ?env1002 (by repeat (first | exact Env.le_rfl | refine Env.le_push rfl ?_))
     case mu2 => simp; omega
     case ok1002 => exact hb3
     case env1002 => exact (Env.le_consE rfl (by first | rfl | (congr 1; done)) (Env.le_consE rfl (by first | rfl | (congr 1; done)) Env.le_nil))
    ·try simp only [B] at hb3
     refine wp_exit <| then_x <| then_x <| block_hit <| then_n <| wp_seq <| St.region <| hs.m fun hs => hs.s fun hs => wpList_nil <| then_n <| wp_ret ?_
     rw [List.take_of_length_le (by omega)] at hs
     obtain ⟨I, hs, hf⟩ := hs.freezeRow 0 rfl
     have hs := hs.upd (t := 2) rfl hf; clear hf
     refine hs.ret rfl (.cons (by first | exact .t rfl | exact .nil rfl) ResL.nil) ?_
     rfl

theorem c_impl_equalIn (l : List Ver) (v : Ver) :
    Fn Tryz.prog 136 [versAV l, v.av] (AV.bool (equalIn l v)) := by
 refine Fn.intro 20 Tryz.func136 rfl Tryz.ntmps136 rfl (by kernel_rfl) (fun W I a hs => ?_)
 refine wp_seq <| St.region <| hs.o (ok_boxP .tt) fun hs => hs.sc fun hs => wpList_nil <| then_n <| wp_seq <| St.region <| hs.m fun hs => ?_
 refine hs.o ((by first | exact ok_loadA ty94 .tt rfl | exact ok_loadS ty94 .tt rfl)) fun hs => ?_
 refine hs.o (ok_call (c_impl_Ver_dep ..) (args_cons .tt args_nil)) fun hs => ?_
 refine hs.o (ok_call (c_impl_place ..) (args_cons .r (args_cons .tt args_nil))) fun hs => ?_
 refine hs.s fun hs => wpList_nil <| then_n <| wp_seq <| hs.dk <| .o (ok_move .tt) <| .o (ok_geq .tt .c) <| .o (ok_move .tt) <| .q .T (ok_move .tt) <| .q .T (ok_move .tt) ?_
 refine .q .T ((by first | exact ok_idxN un48 ty94 .ag .ag (fun hg => by have h0 : 0 ≤ placeOf l v.dep := (by simpa using hg); have := place_hit h0; omega) | exact ok_idxM un48 ty94 .ag .ag (fun hg => by have h0 : 0 ≤ placeOf l v.dep := (by simpa using hg); have := place_hit h0; omega) | exact ok_idx un48 ty94 .ag .ag (fun hg => by have h0 : 0 ≤ placeOf l v.dep := (by simpa using hg); have := place_hit h0; omega))) ?_
 refine .q .T ((by first | exact ok_loadA ty94 .ag rfl | exact ok_loadS ty94 .ag rfl)) ?_
 refine .q .T ((by first | exact ok_loadA ty94 .tt rfl | exact ok_loadS ty94 .tt rfl)) ?_
 refine .q .T (ok_call (c_impl_Ver_same ..) (args_cons .ag (args_cons .ag args_nil))) ?_
 refine .o (ok_and .tt .pc .c) <| .o (ok_assign .tt) <| RunK.nil ?_
 intro I a w hs
 refine then_n <| wp_ret <| hs.ret rfl (.cons (.t rfl) ResL.nil) ?_
 rfl

theorem c_impl_slotFits_1 (u v : Slot) :
    Fn Tryz.prog 210 [u.av, v.av] (AV.bool (slotOwned u v)) := by
 refine Fn.intro 32 Tryz.func210 rfl Tryz.ntmps210 rfl (by kernel_rfl) (fun W I a hs => ?_)
 refine wp_seq <| St.region <| hs.o (ok_boxP .tt) fun hs => hs.o (ok_boxP .tt) fun hs => hs.sc fun hs => wpList_nil <| then_n <| wp_seq <| St.region <| hs.o (ok_fieldP fd91_1 rfl .tt) fun hs => hs.o (ok_load1 ty3 .tt) fun hs => hs.o (ok_eqi .tt .c) fun hs => hs.m fun hs => hs.q .T (ok_fieldP fd91_1 rfl .tt) fun hs => hs.q .T (ok_load1 ty3 .ag) fun hs => ?_
 refine hs.q .T (ok_nei .ag .c) fun hs => ?_
 refine hs.o (ok_and .tt .pc .c) fun hs => hs.m fun hs => hs.q .T (ok_fieldP fd91_0 rfl .tt) fun hs => hs.q .T (ok_load1 ty3 .ag) fun hs => ?_
 refine hs.q .T (ok_fieldP fd91_0 rfl .tt) fun hs => hs.q .T (ok_load1 ty3 .ag) fun hs => ?_
 refine hs.q .T (ok_leq .ag .ag) fun hs => ?_
 refine hs.o (ok_and .tt .pc .c) fun hs => hs.m fun hs => hs.q .T (ok_fieldP fd91_1 rfl .tt) fun hs => hs.q .T (ok_load1 ty3 .ag) fun hs => ?_
 refine hs.q .T (ok_nei .ag .c) fun hs => ?_
 refine hs.q .T (ok_move .ag) fun hs => ?_
 refine hs.q .F2 (ok_fieldP fd91_0 rfl .tt) fun hs => hs.q .F2 (ok_load1 ty3 .ag) fun hs => ?_
 refine hs.q .F2 (ok_fieldP fd91_0 rfl .tt) fun hs => hs.q .F2 (ok_load1 ty3 .ag) fun hs => ?_
 refine hs.q .F2 (ok_eqi .ag .ag) fun hs => ?_
 refine hs.q .T (ok_or .ag .c .pc) fun hs => ?_
 refine hs.o (ok_and .tt .pc .c) fun hs => hs.s fun hs => wpList_nil <| then_n <| wp_ret <| hs.ret rfl (.cons (.t rfl) ResL.nil) ?_
 rfl

theorem c_impl_slotFits_2 (u v : Slot) :
    Fn Tryz.prog 211 [u.av, v.av] (AV.bool (slotLeaving u v)) := by
 refine Fn.intro 20 Tryz.func211 rfl Tryz.ntmps211 rfl (by kernel_rfl) (fun W I a hs => ?_)
 refine wp_seq <| St.region <| hs.o (ok_boxP .tt) fun hs => hs.o (ok_boxP .tt) fun hs => hs.sc fun hs => wpList_nil <| then_n <| wp_seq <| St.region <| hs.o (ok_fieldP fd91_1 rfl .tt) fun hs => hs.o (ok_load1 ty3 .tt) fun hs => hs.o (ok_eqi .tt .c) fun hs => hs.m fun hs => hs.q .T (ok_fieldP fd91_1 rfl .tt) fun hs => hs.q .T (ok_load1 ty3 .ag) fun hs => ?_
 refine hs.q .T (ok_nei .ag .c) fun hs => ?_
 refine hs.o (ok_and .tt .pc .c) fun hs => hs.m fun hs => hs.q .T (ok_fieldP fd91_0 rfl .tt) fun hs => hs.q .T (ok_load1 ty3 .ag) fun hs => ?_
 refine hs.q .T (ok_fieldP fd91_0 rfl .tt) fun hs => hs.q .T (ok_load1 ty3 .ag) fun hs => ?_
 refine hs.q .T (ok_gtr .ag .ag) fun hs => ?_
 refine hs.o (ok_and .tt .pc .c) fun hs => hs.s fun hs => wpList_nil <| then_n <| wp_ret <| hs.ret rfl (.cons (.t rfl) ResL.nil) ?_
 rfl

theorem c_impl_slotFits (u v : Slot) :
    Fn Tryz.prog 138 [u.av, v.av] (AV.bool (slotFits u v)) := by
 refine Fn.intro 29 Tryz.func138 rfl Tryz.ntmps138 rfl (by kernel_rfl) (fun W I a hs => ?_)
 refine wp_seq <| St.region <| hs.o (ok_boxP .tt) fun hs => hs.o (ok_boxP .tt) fun hs => hs.sc fun hs => wpList_nil <| then_n <| wp_seq <| St.region <| hs.o (ok_assign .f) fun hs => wpList_nil <| then_n <| wp_seq <| St.region <| hs.o (ok_assign .f) fun hs => wpList_nil <| then_n <| wp_seq <| St.region <| hs.m fun hs => ?_
 refine hs.o ((by first | exact ok_loadA ty91 .tt rfl | exact ok_loadS ty91 .tt rfl)) fun hs => ?_
 refine hs.o ((by first | exact ok_loadA ty91 .tt rfl | exact ok_loadS ty91 .tt rfl)) fun hs => ?_
 refine hs.o (ok_callV (Fn.valF (c_impl_slotFits_1 u v)) .tt (args_cons .tt (args_cons .tt args_nil))) fun hs => hs.m fun hs => hs.q .F (ok_move .tt) fun hs => ?_
 refine hs.q .F ((by first | exact ok_loadA ty91 .tt rfl | exact ok_loadS ty91 .tt rfl)) fun hs => ?_
 refine hs.q .F ((by first | exact ok_loadA ty91 .tt rfl | exact ok_loadS ty91 .tt rfl)) fun hs => ?_
 refine hs.q .F (ok_callV (Fn.valF (c_impl_slotFits_1 v u)) .ag (args_cons .ag (args_cons .ag args_nil))) fun hs => ?_
 refine hs.o (ok_or .tt .c .pc) fun hs => hs.m fun hs => hs.q .F (ok_move .tt) fun hs => ?_
 refine hs.q .F ((by first | exact ok_loadA ty91 .tt rfl | exact ok_loadS ty91 .tt rfl)) fun hs => ?_
 refine hs.q .F ((by first | exact ok_loadA ty91 .tt rfl | exact ok_loadS ty91 .tt rfl)) fun hs => ?_
 refine hs.q .F (ok_callV (Fn.valF (c_impl_slotFits_2 u v)) .ag (args_cons .ag (args_cons .ag args_nil))) fun hs => ?_
 refine hs.o (ok_or .tt .c .pc) fun hs => hs.m fun hs => hs.q .F (ok_move .tt) fun hs => ?_
 refine hs.q .F ((by first | exact ok_loadA ty91 .tt rfl | exact ok_loadS ty91 .tt rfl)) fun hs => ?_
 refine hs.q .F ((by first | exact ok_loadA ty91 .tt rfl | exact ok_loadS ty91 .tt rfl)) fun hs => ?_
 refine hs.q .F (ok_callV (Fn.valF (c_impl_slotFits_2 v u)) .ag (args_cons .ag (args_cons .ag args_nil))) fun hs => ?_
 refine hs.o (ok_or .tt .c .pc) fun hs => hs.s fun hs => wpList_nil <| then_n <| wp_ret <| hs.ret rfl (.cons (.t rfl) ResL.nil) ?_
 rfl

theorem c_impl_Neck_sideSafe_1 (v : Ver) (l : List Ver) :
    Fn Tryz.prog 141 [v.av, AV.ptr [versAV l]] (AV.bool (waitBad l v)) := by
 refine Fn.intro 8 Tryz.func141 rfl Tryz.ntmps141 rfl (by kernel_rfl) (fun W I a hs => ?_)
 refine wp_seq <| St.region <| hs.o (ok_boxP .tt) fun hs => hs.sc fun hs => wpList_nil <| then_n <| wp_seq <| St.region <| hs.o (ok_load1 ty48 .tt) fun hs => ?_
 refine hs.o ((by first | exact ok_loadA ty94 .tt rfl | exact ok_loadS ty94 .tt rfl)) fun hs => ?_
 refine hs.o (ok_call (c_impl_equalIn ..) (args_cons .r (args_cons .tt args_nil))) fun hs => ?_
 refine hs.o (ok_not .tt) fun hs => hs.s fun hs => wpList_nil <| then_n <| wp_ret <| hs.ret rfl (.cons (.t rfl) ResL.nil) ?_
 rfl


theorem allN_succ (n : Nat) (g : Nat → Bool) : allN (n + 1) g = (allN n g && g n) := by
  rw [Bool.eq_iff_iff, Bool.and_eq_true, allN_iff, allN_iff]
  constructor
  · intro h; exact ⟨fun i hi => h i (by omega), h n (by omega)⟩
  · rintro ⟨h1, h2⟩ i hi
    by_cases e : i = n
    · rw [e]; exact h2
    · exact h1 i (by omega)
def isPair (p : Pair) (v : Ver) : Bool := (v.client == p.1.1) && (v.call == p.1.2)
def seenP (own : List Ver) (k : Nat) (p : Pair) : Bool := !allN k fun j => !isPair p (elt own j)
theorem seenP_zero (own : List Ver) : seenP own 0 = fun _ => false := by
  funext p; simp [seenP, allN]
def pairOf (v : Ver) (h : i64r v.client ∧ i64r v.call) : Pair := ⟨(v.client, v.call), h⟩
theorem seenP_upd {own : List Ver} {k : Nat} (h : i64r (elt own k).client ∧ i64r (elt own k).call) : (fun y => if y = pairOf (elt own k) h then true else seenP own k y) = seenP own (k + 1) := by
  funext y
  unfold seenP
  rw [allN_succ]
  by_cases hy : y = pairOf (elt own k) h
  · rw [if_pos hy, hy]
    have : isPair (pairOf (elt own k) h) (elt own k) = true := by simp [isPair, pairOf]
    rw [this]; simp
  · rw [if_neg hy]
    have : isPair y (elt own k) = false := by
      cases hh : isPair y (elt own k)
      · rfl
      · exfalso
        apply hy
        simp only [isPair, Bool.and_eq_true, beq_iff_eq] at hh
        obtain ⟨⟨u, v⟩, hu⟩ := y
        simp only [pairOf]
        apply Subtype.ext
        exact Prod.ext hh.1.symm hh.2.symm
    rw [this]; simp
theorem seenP_self {own : List Ver} {k : Nat} (h : i64r (elt own k).client ∧ i64r (elt own k).call) : seenP own k (pairOf (elt own k) h) = !allN k fun j => !sameCall (elt own j) (elt own k) := rfl
theorem ver_range {v : Ver} (h : verOk v = true) : i64r v.client ∧ i64r v.call := by
  simp only [verOk, Bool.and_eq_true] at h
  have h1 := h.1.1.1.2
  have h2 := h.1.1.2
  simp [clientB, inB] at h1 h2
  exact ⟨⟨by omega, by omega⟩, ⟨by omega, by omega⟩⟩
theorem side_all {x : Neck} (hnk : neckOk x = true) {s : Int} (h0 : 0 ≤ s ∧ s ≤ 1) : (∀ v ∈ sideL x s, verOk v = true) ∧ (sideL x s).length ≤ 160 := by
  have ca := (side_parts hnk (i := (2 * s).toNat) (by omega)).1
  have cb := (side_parts hnk (i := (2 * s + 1).toNat) (by omega)).1
  refine ⟨fun v hv => (adds_mem hv).elim (chain_all cb v) (chain_all ca v), ?_⟩
  have := adds_len (elt x.servers (2 * s + 1).toNat).vers (elt x.servers (2 * s).toNat).vers
  have l1 := chain_len ca
  have l2 := chain_len cb
  unfold sideL; omega
theorem pair_test (b c : Bool) : (b || !c) = !(!b && c) := by cases b <;> cases c <;> rfl
def verHead1 (own : List Ver) (k : Nat) : Bool := (allN k fun j => !sameCall (elt own j) (elt own k)) && hasAll own (elt own k).deps
theorem head1_test {own : List Ver} {k : Nat} (h : i64r (elt own k).client ∧ i64r (elt own k).call) : (seenP own k (pairOf (elt own k) h) || !hasAll own (elt own k).deps) = !verHead1 own k := by
  rw [seenP_self]; unfold verHead1; simp
theorem verSafe_no {own other : List Ver} {s : Int} {k : Nat} (h : verHead1 own k = false) : verSafe own other s k = false := by
  have : verSafe own other s k = (verHead1 own k && (if 0 ≤ placeOf other (elt own k).dep then equalIn other (elt own k) else siteSide (elt own k).stamp.site == s)) := rfl
  rw [this, h]; rfl
theorem verSafe_in {own other : List Ver} {s : Int} {k : Nat} (h : verHead1 own k = true) (hp : 0 ≤ placeOf other (elt own k).dep) : verSafe own other s k = equalIn other (elt own k) := by
  have : verSafe own other s k = (verHead1 own k && (if 0 ≤ placeOf other (elt own k).dep then equalIn other (elt own k) else siteSide (elt own k).stamp.site == s)) := rfl
  rw [this, h, if_pos hp]; rfl
theorem verSafe_out {own other : List Ver} {s : Int} {k : Nat} (h : verHead1 own k = true) (hp : placeOf other (elt own k).dep < 0) : verSafe own other s k = (siteSide (elt own k).stamp.site == s) := by
  have : verSafe own other s k = (verHead1 own k && (if 0 ≤ placeOf other (elt own k).dep then equalIn other (elt own k) else siteSide (elt own k).stamp.site == s)) := rfl
  rw [this, h, if_neg (by omega)]; rfl
theorem put_test2 (own : List Ver) (q : Call) : (decide (placeOf own ⟨elt q.keys 0, q.stamp⟩ < 0) || ((elt own (placeOf own ⟨elt q.keys 0, q.stamp⟩).toNat).val != q.val) || ((elt own (placeOf own ⟨elt q.keys 0, q.stamp⟩).toNat).client != q.client) || ((elt own (placeOf own ⟨elt q.keys 0, q.stamp⟩).toNat).call != q.num)) = !putAt own q := by
  have e : decide (placeOf own ⟨elt q.keys 0, q.stamp⟩ < 0) = !decide (0 ≤ placeOf own ⟨elt q.keys 0, q.stamp⟩) := by rw [Bool.eq_iff_iff]; simp
  rw [e]; unfold putAt; simp [bne]
theorem call_skip2 {own : List Ver} {side : Int} {q : Call} (h : ((q.client != side) || (q.kind != 1) || (q.end_ == 0)) = true) : callSafe own side q = true := by
  unfold callSafe; rw [h]; rfl
theorem call_put2 {own : List Ver} {side : Int} {q : Call} (h : ((q.client != side) || (q.kind != 1) || (q.end_ == 0)) = false) : callSafe own side q = putAt own q := by
  unfold callSafe; rw [h]; rfl
def slotAt1 (x : Neck) (s : Int) (i : Nat) : Bool := slotFits (elt (srv x (2 * s)).slots i) (elt (srv x (2 * s + 1)).slots i)
theorem flat_two (a b : List Ver) : ([a, b] : List (List Ver)).flatten = a ++ b := by simp
theorem mapofP : MapOf Tryz.prog 163 164 4 (pairKey Tryz.prog 164) (fun b : Bool => Value.bool b) (fun b => .lit (.bool b)) (fun _ => True) false :=
  mapOf_pair (s := 297) un163 un4 (fun w => ty4.zero) un164 un3 (by kernel_rfl) (by kernel_rfl) (by kernel_rfl) (by kernel_rfl) (deep_law_gate (by kernel_rfl) (of_decide_eq_true (by kernel_rfl)) (of_decide_eq_true (by kernel_rfl)) (by kernel_rfl) (by kernel_rfl))
theorem key_of {Γ : Env} {g : Bool} {x' : Operand} (q : Pair) (hy : At Γ g x' (.agg [.int q.1.1, .int q.1.2])) : ∀ I a, EnvOk I a Γ → g = true → keyOf Tryz.prog 164 (a.eval x') = some (pairKey Tryz.prog 164 q) :=
  pair_key (s := 297) un164 un3 (by kernel_rfl) (by kernel_rfl) (by kernel_rfl) (by kernel_rfl) q hy

set_option maxHeartbeats 8000000 in
theorem c_impl_Neck_sideSafe (x : Neck) (s : Int) (hnk : neckOk x = true) (hs0 : 0 ≤ s ∧ s ≤ 1) :
    Fn Tryz.prog 69 [x.av, AV.int s] (AV.bool (sideSafe x s)) := by
 refine Fn.intro 178 Tryz.func69 rfl Tryz.ntmps69 rfl (by kernel_rfl) (fun W I a hs => ?_)
 have lens : x.servers.length ≤ 9223372036854775807 ∧ x.radio.length ≤ 9223372036854775807 ∧ x.calls.length ≤ 9223372036854775807 ∧ x.seen.length ≤ 9223372036854775807 := by
    obtain ⟨cs, _, hc⟩ := hs.env 0 _ rfl
    obtain ⟨u1, _, h1, _⟩ := hc.get (i := 1) rfl
    obtain ⟨u2, _, h2, _⟩ := hc.get (i := 2) rfl
    obtain ⟨u3, _, h3, _⟩ := hc.get (i := 3) rfl
    obtain ⟨u4, _, h4, _⟩ := hc.get (i := 4) rfl
    exact ⟨rows_le h1, rows_le h2, rows_le h3, rows_le h4⟩
 have h4 := (neckOk_server hnk (k := 0) (by omega)).2.1
 obtain ⟨-, wa, -, -, sa⟩ := side_parts hnk (i := (2 * s).toNat) (by omega)
 obtain ⟨-, wb, -, -, sb⟩ := side_parts hnk (i := (2 * s + 1).toNat) (by omega)
 have hall0 := side_all hnk hs0
 have hse := neckOk_seen hnk
 have lwa := chain_len wa
 have lwb := chain_len wb
 refine wp_seq <| St.region <| hs.o (ok_boxP .tt) fun hs => hs.sc fun hs => wpList_nil <| then_n <| wp_seq ?_
 refine hs.drawA 9 (by kernel_rfl) (by kernel_rfl) (by kernel_rfl) ?_
 simp only [List.take_succ_cons, List.take_zero, List.drop_succ_cons, List.drop_zero]
 refine RunTA.cons (.of rfl ((by first | exact ok_loadA ty35 .tt rfl | exact ok_loadS ty35 .tt rfl))) ?_
 refine RunTA.cons (.of rfl (ok_move .tt)) <| RunTA.cons (.of rfl (ok_call (c_impl_Neck_side x s hnk hs0) (args_cons .tt (args_cons .tt args_nil)))) ?_
 refine RunTA.cons (.of rfl ((by first | exact ok_loadA ty35 .tt rfl | exact ok_loadS ty35 .tt rfl))) ?_
 refine RunTA.cons (.of rfl (ok_move .tt)) ?_
 refine RunTA.cons (.of rfl (ok_sub .c .tt (fun _ => by omega))) ?_
 refine RunTA.cons (.of rfl (ok_call (c_impl_Neck_side x (1 - s) hnk (by omega)) (args_cons (.t rfl) (args_cons (.t rfl) args_nil)))) ?_
 refine RunTA.alloc ty48 zc48 <| RunTA.cons (.of rfl (ok_assign .tt)) <| RunTA.nil ?_
 intro I a w hs
 obtain ⟨b6, hs⟩ := hs.openBox (d := 6) rfl
 refine hs.storeB1 0 ty48 .tt .r (by first | exact one_val rfl | exact one_rows | exact one_ptr | exact one_fn) rfl rfl fun a w hs => ?_
 obtain ⟨I, hs, hf⟩ := hs.freezeBox 0 rfl
 have hs := hs.upd (t := 6) rfl hf; clear hf
 refine wpList_nil <| then_n <| wp_seq <| St.region <| hs.makeMap rfl mapofP fun b26 a w hs => ?_
 rw [show (fun _ : Pair => false) = seenP (sideL x s) 0 from (seenP_zero _).symm] at hs
 refine hs.s fun hs => wpList_nil <| then_n <| wp_seq <| wp_seq <| St.region <| hs.m fun hs => ?_
 refine hs.o ((by first | exact ok_lenM un48 .tt | exact ok_len un48 .tt | exact ok_lenV un48 .tt)) fun hs => ?_
 refine hs.mc fun hs => wpList_nil <| then_n <| wp_block ?_
 refine St.loopS (σ := Nat) (4 :: 9 :: 10 :: 29 :: 30 :: 31 :: 32 :: 33 :: 34 :: 35 :: 36 :: 37 :: 38 :: 39 :: 40 :: 41 :: 42 :: 43 :: 44 :: 45 :: 46 :: 47 :: 48 :: 49 :: 50 :: 51 :: 52 :: 53 :: 54 :: 55 :: 56 :: 57 :: 58 :: 59 :: 60 :: 61 :: 62 :: 63 :: 64 :: 65 :: []) ⟨fun k => [(29, AV.int k)], fun k => [Own.gone, Own.omap Tryz.prog 164 4 (pairKey Tryz.prog 164) (fun b : Bool => .lit (.bool b)) false b26 (k) (seenP (sideL x s) (k))], fun k => k ≤ (sideL x s).length ∧ ∀ i, i < k → (verSafe (sideL x s) (sideL x (1 - s)) s) i = true⟩ (fun k => (sideL x s).length - k) 0 hs rfl ?ok1 ?env1 ?round1
 case ok1 => exact ⟨Nat.zero_le _, fun i hi => by omega⟩
 case env1 => exact (Env.le_consE rfl (by rfl) Env.le_nil)
 case round1 =>
  rintro k I a w hok hs
  obtain ⟨hk_k, hall⟩ := hok
  refine wp_seq <| St.region <| hs.o (ok_lss .tt .tt) fun hs => wpList_nil <| then_n <| wp_seq ?_
  refine hs.cond .tt (fun hb1 => ?_) (fun hb1 => ?_)
  ·try simp only [B] at hb1
   refine wp_skip <| then_n <| wp_seq <| wp_block <| wp_seq <| St.region ?_
   refine hs.o ((by first | exact ok_idxN un48 ty94 .tt .tt (fun _ => by exact hb1) | exact ok_idxM un48 ty94 .tt .tt (fun _ => by exact hb1) | exact ok_idx un48 ty94 .tt .tt (fun _ => by exact hb1))) fun hs => ?_
   refine hs.o ((by first | exact ok_loadA ty94 .tt rfl | exact ok_loadS ty94 .tt rfl)) fun hs => ?_
   refine hs.alloc rfl ty94 zc94 fun b9 I a w hs => ?_
   refine hs.storeB 2 ty94 .tt .tt rfl (by first | rfl | assumption) rfl fun a w hs => ?_
   obtain ⟨I, hs, hf⟩ := hs.freezeBox 2 rfl
   have hs := hs.upd (t := 9) rfl hf; clear hf
   refine wpList_nil <| then_n <| wp_seq <| St.region <| hs.o (ok_fieldP fd94_3 rfl .tt) fun hs => hs.o (ok_load1 ty3 .tt) fun hs => hs.o (ok_fieldP fd94_4 rfl .tt) fun hs => hs.o (ok_load1 ty3 .tt) fun hs => ?_
   refine hs.o (ok_buildA (l0 := [AV.val (.int .i64 0), AV.val (.int .i64 0)]) un164 ty3 ty164 zc164 rfl (Parts.c rfl rfl .tt (by first | exact one_val rfl | exact one_rows | exact one_ptr | exact one_fn) (Parts.c rfl rfl .tt (by first | exact one_val rfl | exact one_rows | exact one_ptr | exact one_fn) Parts.nil))) fun hs => ?_
   refine hs.alloc rfl ty164 zc164 fun b10 I a w hs => ?_
   refine hs.storeB 3 ty164 .tt .tt rfl (by first | rfl | assumption) rfl fun a w hs => ?_
   obtain ⟨I, hs, hf⟩ := hs.freezeBox 3 rfl
   have hs := hs.upd (t := 10) rfl hf; clear hf
   refine wpList_nil <| then_n <| wp_seq <| wp_seq <| St.region <| hs.m fun hs => ?_
   refine hs.o ((by first | exact ok_loadA ty164 .tt rfl | exact ok_loadS ty164 .tt rfl)) fun hs => ?_
   refine hs.o (ok_lookup 1 mapofP .tt (key_of (pairOf (elt (sideL x s) k) (ver_range (hall0.1 _ (elt_mem hb1)))) .tt ) rfl) fun hs => hs.m fun hs => hs.q .F (ok_move .tt) fun hs => hs.q .F (ok_fieldP fd94_5 rfl .tt) fun hs => hs.q .F (ok_load1 ty65 .ag) fun hs => ?_
   refine hs.q .F (ok_call (c_impl_hasAll ..) (args_cons .ag (args_cons .ag args_nil))) fun hs => ?_
   refine hs.q .F (ok_not .ag) fun hs => ?_
   refine hs.o (ok_or .tt .c .pc) fun hs => wpList_nil <| then_n ?_
   refine hs.cond .tt (fun hb2 => ?_) (fun hb2 => ?_)
   ·rw [head1_test (ver_range (hall0.1 _ (elt_mem hb1)))] at hb2; replace hb2 := nt hb2
    refine wp_seq <| St.region <| hs.sc fun hs => wpList_nil <| then_n <| wp_ret <| then_r <| block_r <| then_r <| then_r <| block_r <| then_r <| hs.ret rfl (.cons (.t rfl) ResL.nil) ?_
    exact ret_bool (by unfold sideSafe; rw [allN_false (f := verSafe (sideL x s) (sideL x (1 - s)) s) hb1 (verSafe_no hb2)]; simp)
   ·rw [head1_test (ver_range (hall0.1 _ (elt_mem hb1)))] at hb2; replace hb2 := nf hb2
    refine wp_skip <| then_n <| wp_seq <| St.region <| hs.m fun hs => ?_
    refine hs.o ((by first | exact ok_loadA ty164 .tt rfl | exact ok_loadS ty164 .tt rfl)) fun hs => ?_
    refine hs.mapUpdate 1 mapofP .tt (key_of (pairOf (elt (sideL x s) k) (ver_range (hall0.1 _ (elt_mem hb1)))) .tt ) .c (by trivial) (by omega) rfl fun a w hs => ?_
    rw [seenP_upd (ver_range (hall0.1 _ (elt_mem hb1)))] at hs
    refine wpList_nil <| then_n <| wp_seq <| hs.dk <| .o (ok_load1 ty48 .tt) ?_
    refine .o ((by first | exact ok_loadA ty94 .tt rfl | exact ok_loadS ty94 .tt rfl)) ?_
    refine .o (ok_call (c_impl_Ver_dep ..) (args_cons .tt args_nil)) ?_
    refine .o (ok_call (c_impl_place ..) (args_cons .r (args_cons .tt args_nil))) ?_
    refine .o (ok_geq .tt .c) <| RunK.nil ?_
    intro I a w hs
    refine then_n ?_
    refine hs.cond .tt (fun hb3 => ?_) (fun hb3 => ?_)
    ·try simp only [B] at hb3
     refine wp_seq <| St.region <| hs.o (ok_load1 ty48 .tt) fun hs => ?_
     refine hs.o ((by first | exact ok_loadA ty94 .tt rfl | exact ok_loadS ty94 .tt rfl)) fun hs => ?_
     refine hs.o (ok_call (c_impl_equalIn ..) (args_cons .r (args_cons .tt args_nil))) fun hs => ?_
     refine hs.o (ok_not .tt) fun hs => wpList_nil <| then_n ?_
     refine hs.cond .tt (fun hb4 => ?_) (fun hb4 => ?_)
     ·replace hb4 := nt hb4
      refine wp_seq <| St.region <| hs.sc fun hs => wpList_nil <| then_n <| wp_ret <| block_r <| then_r <| then_r <| block_r <| then_r <| hs.ret rfl (.cons (.t rfl) ResL.nil) ?_
      exact ret_bool (by unfold sideSafe; rw [allN_false (f := verSafe (sideL x s) (sideL x (1 - s)) s) hb1 ((verSafe_in hb2 hb3).trans hb4)]; simp)
     ·replace hb4 := nf hb4
      refine wp_skip <| block_n <| then_n <| St.region ?_
      refine hs.o (ok_add .tt .c (fun _ => by omega)) fun hs => ?_
      refine hs.m fun hs => wpList_nil <| then_n ?_
      have hs := hs.drop 2
      refine hs.again (k + 1) ?mu1 ?ok1001 (by rfl) ?env1001 (by repeat (first | exact Env.le_rfl | refine Env.le_push rfl ?_))
      case mu1 => omega
      case ok1001 => exact ⟨by omega, allN_next hall ((verSafe_in hb2 hb3).trans hb4)⟩
      case env1001 => exact (Env.le_consE rfl (by first | rfl | (congr 1; done)) Env.le_nil)
    ·try simp only [B] at hb3
     refine wp_seq <| St.region <| hs.o (ok_fieldP fd94_1 rfl .tt) fun hs => hs.o (ok_fieldP fd67_1 rfl .tt) fun hs => hs.o (ok_load1 ty3 .tt) fun hs => hs.o (ok_call (c_impl_SiteSide ..) (args_cons .tt args_nil)) fun hs => hs.m fun hs => hs.o (ok_nei .tt .tt) fun hs => wpList_nil <| then_n ?_
     refine hs.cond .tt (fun hb5 => ?_) (fun hb5 => ?_)
     ·skip
      refine wp_seq <| St.region <| hs.sc fun hs => wpList_nil <| then_n <| wp_ret <| block_r <| then_r <| then_r <| block_r <| then_r <| hs.ret rfl (.cons (.t rfl) ResL.nil) ?_
      exact ret_bool (by unfold sideSafe; rw [allN_false (f := verSafe (sideL x s) (sideL x (1 - s)) s) hb1 ((verSafe_out hb2 (by omega)).trans (by simpa using hb5))]; simp)
     ·skip
      refine wp_skip <| block_n <| then_n <| St.region ?_
      refine hs.o (ok_add .tt .c (fun _ => by omega)) fun hs => ?_
      refine hs.m fun hs => wpList_nil <| then_n ?_
      have hs := hs.drop 2
      refine hs.again (k + 1) ?mu2 ?ok1002 (by rfl) ?env1002 (by repeat (first | exact Env.le_rfl | refine Env.le_push rfl ?_))
      case mu2 => omega
      case ok1002 => exact ⟨by omega, allN_next hall ((verSafe_out hb2 (by omega)).trans (by simpa using hb5))⟩
      case env1002 => exact (Env.le_consE rfl (by first | rfl | (congr 1; done)) Env.le_nil)
  ·try simp only [B] at hb1
   refine wp_exit <| then_x <| then_x <| block_hit <| then_n <| wp_seq ?_
   have hs := hs.ownGone
   have hs := hs.ownGone
   refine hs.drawD [([], none), ([], none), ([], none), ([], none), ([], none), ([], none), ([], none), ([], none), ([], none), ([], none), ([], none), ([], none), ([], none), ([2], some (2, [11])), ([3], some (3, [12])), ([2], some (2, [11])), ([3], some (3, [12]))] (by kernel_rfl) (by kernel_rfl) rfl ?_
   refine RunD.op rfl rfl rfl (fun F a => ok_fieldP fd35_1 rfl .tt) <| RunD.op rfl rfl rfl (fun F a => ok_load1 ty30 .tt) <| RunD.op rfl rfl rfl (fun F a => ok_move .tt) ?_
   refine RunD.op rfl rfl rfl (fun F a => ok_mul .c .tt (fun _ => by omega)) ?_
   refine RunD.op rfl rfl rfl (fun F a => (by first | exact ok_idxN un30 ty89 .tt .tt (fun _ => by omega) | exact ok_idxM un30 ty89 .tt .tt (fun _ => by omega) | exact ok_idx un30 ty89 .tt .tt (fun _ => by omega))) ?_
   refine RunD.op rfl rfl rfl (fun F a => (by first | exact ok_loadA ty89 .tt rfl | exact ok_loadS ty89 .tt rfl)) ?_
   refine RunD.op rfl rfl rfl (fun F a => ok_fieldP fd35_1 rfl .tt) <| RunD.op rfl rfl rfl (fun F a => ok_load1 ty30 .tt) <| RunD.op rfl rfl rfl (fun F a => ok_move .tt) ?_
   refine RunD.op rfl rfl rfl (fun F a => ok_mul .c .tt (fun _ => by omega)) ?_
   refine RunD.op rfl rfl rfl (fun F a => ok_add .tt .c (fun _ => by omega)) ?_
   refine RunD.op rfl rfl rfl (fun F a => (by first | exact ok_idxN un30 ty89 .tt .tt (fun _ => by omega) | exact ok_idxM un30 ty89 .tt .tt (fun _ => by omega) | exact ok_idx un30 ty89 .tt .tt (fun _ => by omega))) ?_
   refine RunD.op rfl rfl rfl (fun F a => (by first | exact ok_loadA ty89 .tt rfl | exact ok_loadS ty89 .tt rfl)) ?_
   refine RunD.alloc 2 rfl rfl ty89 zc89 <| RunD.alloc 3 rfl rfl ty89 zc89 <| RunD.storeN 2 rfl ty89 rfl .tt rfl rfl <| RunD.storeN 3 rfl ty89 rfl .tt rfl rfl <| RunD.nil ?_
   intro I a w hs
   obtain ⟨b11, hs⟩ := hs.openAt (d := 11) 2 rfl rfl
   obtain ⟨I, hs, hf⟩ := hs.freezeBox 2 rfl
   have hs := hs.upd (t := 11) rfl hf; clear hf
   obtain ⟨b12, hs⟩ := hs.openAt (d := 12) 3 rfl rfl
   obtain ⟨I, hs, hf⟩ := hs.freezeBox 3 rfl
   have hs := hs.upd (t := 12) rfl hf; clear hf
   refine then_n <| wp_seq <| wp_seq <| St.region <| hs.o (ok_fieldP fd89_2 rfl .tt) fun hs => hs.o (ok_load1 ty87 .tt) fun hs => ?_
   refine hs.o ((by first | exact ok_lenM un87 .tt | exact ok_len un87 .tt | exact ok_lenV un87 .tt)) fun hs => ?_
   refine hs.mc fun hs => wpList_nil <| then_n <| wp_block ?_
   refine St.loopS (σ := Nat) (4 :: 13 :: 14 :: 82 :: 83 :: 84 :: 85 :: 86 :: 87 :: 88 :: 89 :: 90 :: 91 :: 92 :: 93 :: 94 :: 95 :: []) ⟨fun k2 => [(82, AV.int k2)], fun k2 => [Own.gone, Own.omap Tryz.prog 164 4 (pairKey Tryz.prog 164) (fun b : Bool => .lit (.bool b)) false b26 (k) (seenP (sideL x s) (k)), Own.gone, Own.gone], fun k2 => k2 ≤ (elt x.servers (2 * s).toNat).slots.length ∧ ∀ i, i < k2 → (slotAt1 x s) i = true⟩ (fun k2 => (elt x.servers (2 * s).toNat).slots.length - k2) 0 hs rfl ?ok2 ?env2 ?round2
   case ok2 => exact ⟨Nat.zero_le _, fun i hi => by omega⟩
   case env2 => exact (Env.le_consE rfl (by rfl) Env.le_nil)
   case round2 =>
    rintro k2 I a w hok hs
    obtain ⟨hk_k2, hall2⟩ := hok
    refine wp_seq <| St.region <| hs.o (ok_lss .tt .tt) fun hs => wpList_nil <| then_n <| wp_seq ?_
    refine hs.cond .tt (fun hb6 => ?_) (fun hb6 => ?_)
    ·try simp only [B] at hb6
     refine wp_skip <| then_n <| wp_seq <| wp_block <| wp_seq <| St.region <| hs.m fun hs => ?_
     refine hs.o ((by first | exact ok_idxN un87 ty91 .tt .tt (fun _ => by exact hb6) | exact ok_idxM un87 ty91 .tt .tt (fun _ => by exact hb6) | exact ok_idx un87 ty91 .tt .tt (fun _ => by exact hb6))) fun hs => ?_
     refine hs.o ((by first | exact ok_loadA ty91 .tt rfl | exact ok_loadS ty91 .tt rfl)) fun hs => ?_
     refine hs.alloc rfl ty91 zc91 fun b14 I a w hs => hs.s fun hs => ?_
     refine hs.storeB 4 ty91 .tt .tt rfl (by first | rfl | assumption) rfl fun a w hs => ?_
     obtain ⟨I, hs, hf⟩ := hs.freezeBox 4 rfl
     have hs := hs.upd (t := 14) rfl hf; clear hf
     refine wpList_nil <| then_n <| wp_seq <| hs.dk ?_
     refine .o ((by first | exact ok_loadA ty91 .tt rfl | exact ok_loadS ty91 .tt rfl)) ?_
     refine .o (ok_fieldP fd89_2 rfl .tt) <| .o (ok_load1 ty87 .tt) <| .o (ok_move .tt) ?_
     refine .o ((by first | exact ok_idxN un87 ty91 .tt .tt (fun _ => by change k2 < (elt x.servers (2 * s + 1).toNat).slots.length; omega) | exact ok_idxM un87 ty91 .tt .tt (fun _ => by change k2 < (elt x.servers (2 * s + 1).toNat).slots.length; omega) | exact ok_idx un87 ty91 .tt .tt (fun _ => by change k2 < (elt x.servers (2 * s + 1).toNat).slots.length; omega))) ?_
     refine .o ((by first | exact ok_loadA ty91 .tt rfl | exact ok_loadS ty91 .tt rfl)) ?_
     refine .o (ok_call (c_impl_slotFits ..) (args_cons .tt (args_cons .tt args_nil))) <| .o (ok_not .tt) <| RunK.nil ?_
     intro I a w hs
     refine then_n ?_
     refine hs.cond .tt (fun hb7 => ?_) (fun hb7 => ?_)
     ·change (!slotAt1 x s k2) = true at hb7; replace hb7 := nt hb7
      refine wp_seq <| St.region <| hs.sc fun hs => wpList_nil <| then_n <| wp_ret <| block_r <| then_r <| then_r <| block_r <| then_r <| hs.ret rfl (.cons (.t rfl) ResL.nil) ?_
      exact ret_bool (by unfold sideSafe; rw [show slotsSafe x s = false from allN_false (f := slotAt1 x s) hb6 hb7]; simp)
     ·change (!slotAt1 x s k2) = false at hb7; replace hb7 := nf hb7
      refine wp_skip <| block_n <| then_n <| St.region ?_
      refine hs.o (ok_add .tt .c (fun _ => by omega)) fun hs => ?_
      refine hs.m fun hs => wpList_nil <| then_n ?_
      have hs := hs.drop 4
      refine hs.again (k2 + 1) ?mu3 ?ok1003 (by rfl) ?env1003 (by repeat (first | exact Env.le_rfl | refine Env.le_push rfl ?_))
      case mu3 => omega
      case ok1003 => exact ⟨by omega, allN_next hall2 hb7⟩
      case env1003 => exact (Env.le_consE rfl (by first | rfl | (congr 1; done)) Env.le_nil)
    ·try simp only [B] at hb6
     refine wp_exit <| then_x <| then_x <| block_hit <| then_n <| wp_seq <| wp_seq <| St.region <| hs.o (ok_fieldP fd35_3 rfl .tt) fun hs => hs.o (ok_load1 ty32 .tt) fun hs => ?_
     refine hs.o ((by first | exact ok_lenM un32 .tt | exact ok_len un32 .tt | exact ok_lenV un32 .tt)) fun hs => ?_
     refine hs.mc fun hs => wpList_nil <| then_n <| wp_block ?_
     refine St.loopS (σ := Nat) (4 :: 16 :: 17 :: 99 :: 100 :: 101 :: 102 :: 103 :: 104 :: 105 :: 106 :: 107 :: 108 :: 109 :: 110 :: 111 :: 112 :: 113 :: 114 :: 115 :: 116 :: 117 :: 118 :: 119 :: 120 :: 121 :: 122 :: 123 :: 124 :: 125 :: 126 :: 127 :: 128 :: 129 :: 130 :: 131 :: 132 :: 133 :: 134 :: 135 :: 136 :: 137 :: 138 :: 139 :: 140 :: 141 :: 142 :: 143 :: 144 :: 145 :: 146 :: 147 :: 148 :: 149 :: 150 :: 151 :: 152 :: 153 :: 154 :: 155 :: 156 :: 157 :: 158 :: []) ⟨fun k3 => [(99, AV.int k3)], fun k3 => [Own.gone, Own.omap Tryz.prog 164 4 (pairKey Tryz.prog 164) (fun b : Bool => .lit (.bool b)) false b26 (k) (seenP (sideL x s) (k)), Own.gone, Own.gone], fun k3 => k3 ≤ x.calls.length ∧ ∀ i, i < k3 → (fun i => callSafe (sideL x s) s (elt x.calls i)) i = true⟩ (fun k3 => x.calls.length - k3) 0 hs rfl ?ok3 ?env3 ?round3
     case ok3 => exact ⟨Nat.zero_le _, fun i hi => by omega⟩
     case env3 => exact (Env.le_consE rfl (by rfl) Env.le_nil)
     case round3 =>
      rintro k3 I a w hok hs
      obtain ⟨hk_k3, hall3⟩ := hok
      refine wp_seq <| St.region <| hs.o (ok_lss .tt .tt) fun hs => wpList_nil <| then_n <| wp_seq ?_
      refine hs.cond .tt (fun hb8 => ?_) (fun hb8 => ?_)
      ·try simp only [B] at hb8
       refine wp_skip <| then_n <| wp_seq <| wp_block <| wp_seq <| St.region ?_
       refine hs.o ((by first | exact ok_idxN un32 ty70 .tt .tt (fun _ => by exact hb8) | exact ok_idxM un32 ty70 .tt .tt (fun _ => by exact hb8) | exact ok_idx un32 ty70 .tt .tt (fun _ => by exact hb8))) fun hs => ?_
       refine hs.o ((by first | exact ok_loadA ty70 .tt rfl | exact ok_loadS ty70 .tt rfl)) fun hs => ?_
       refine hs.alloc rfl ty70 zc70 fun b16 I a w hs => ?_
       refine hs.storeB 4 ty70 .tt .tt rfl (by first | rfl | assumption) rfl fun a w hs => ?_
       obtain ⟨I, hs, hf⟩ := hs.freezeBox 4 rfl
       have hs := hs.upd (t := 16) rfl hf; clear hf
       refine wpList_nil <| then_n <| wp_seq <| wp_seq <| St.region <| hs.o (ok_fieldP fd70_0 rfl .tt) fun hs => hs.o (ok_load1 ty3 .tt) fun hs => hs.m fun hs => hs.o (ok_nei .tt .tt) fun hs => hs.m fun hs => hs.q .F (ok_fieldP fd70_2 rfl .tt) fun hs => hs.q .F (ok_load1 ty3 .ag) fun hs => ?_
       refine hs.q .F (ok_nei .ag .c) fun hs => ?_
       refine hs.o (ok_or .tt .c .pc) fun hs => hs.m fun hs => hs.q .F (ok_fieldP fd70_7 rfl .tt) fun hs => hs.q .F (ok_load1 ty3 .ag) fun hs => ?_
       refine hs.q .F (ok_eqi .ag .c) fun hs => ?_
       refine hs.o (ok_or .tt .c .pc) fun hs => wpList_nil <| then_n ?_
       refine hs.cond .tt (fun hb9 => ?_) (fun hb9 => ?_)
       ·skip
        refine wp_exit <| then_x <| block_hit <| then_n <| St.region ?_
        refine hs.o (ok_add .tt .c (fun _ => by omega)) fun hs => ?_
        refine hs.m fun hs => wpList_nil <| then_n ?_
        have hs := hs.drop 4
        refine hs.again (k3 + 1) ?mu4 ?ok1004 (by rfl) ?env1004 (by repeat (first | exact Env.le_rfl | refine Env.le_push rfl ?_))
        case mu4 => omega
        case ok1004 => exact ⟨by omega, allN_next hall3 (call_skip2 hb9)⟩
        case env1004 => exact (Env.le_consE rfl (by first | rfl | (congr 1; done)) Env.le_nil)
       ·skip
        refine wp_skip <| then_n <| wp_seq <| hs.dk <| .o (ok_move .tt) <| .o (ok_fieldP fd70_3 rfl .tt) <| .o (ok_load1 ty64 .tt) ?_
        refine .o ((by first | exact ok_idxN un64 ty3 .tt .c (fun _ => by have := safe_keys hnk hb8; omega) | exact ok_idxM un64 ty3 .tt .c (fun _ => by have := safe_keys hnk hb8; omega) | exact ok_idx un64 ty3 .tt .c (fun _ => by have := safe_keys hnk hb8; omega))) ?_
        refine .o (ok_load1 ty3 .tt) <| .o (ok_fieldP fd70_9 rfl .tt) ?_
        refine .o ((by first | exact ok_loadA ty67 .tt rfl | exact ok_loadS ty67 .tt rfl)) ?_
        refine .o (ok_build (l0 := [AV.val (.int .i64 0), AV.val (.int .i64 0), AV.val (.int .i64 0)]) ty74 fk74 zc74 rfl (Parts.c sp74_0 rfl .tt (by first | exact one_val rfl | exact one_rows | exact one_ptr | exact one_fn) (Parts.s sp74_1 rfl rfl .tt Parts.nil))) ?_
        refine .o (ok_call (c_impl_place (sideL x s) ⟨elt (elt x.calls k3).keys 0, (elt x.calls k3).stamp⟩) (args_cons .r (args_cons .tt args_nil))) ?_
        refine .o (ok_assign .tt) <| RunK.nil ?_
        intro I a w hs
        refine then_n <| wp_seq <| hs.dk <| .o (ok_move .tt) <| .o (ok_lss .tt .c) <| .o (ok_move .tt) <| .q .F (ok_move .tt) <| .q .F (ok_move .tt) ?_
        refine .q .F ((by first | exact ok_idxN un48 ty94 .ag .ag (fun hg => by have h0 : 0 ≤ placeOf (sideL x s) ⟨elt (elt x.calls k3).keys 0, (elt x.calls k3).stamp⟩ := (by simp at hg; first | exact hg | exact hg.1 | exact hg.1.1); have := place_hit h0; omega) | exact ok_idxM un48 ty94 .ag .ag (fun hg => by have h0 : 0 ≤ placeOf (sideL x s) ⟨elt (elt x.calls k3).keys 0, (elt x.calls k3).stamp⟩ := (by simp at hg; first | exact hg | exact hg.1 | exact hg.1.1); have := place_hit h0; omega) | exact ok_idx un48 ty94 .ag .ag (fun hg => by have h0 : 0 ≤ placeOf (sideL x s) ⟨elt (elt x.calls k3).keys 0, (elt x.calls k3).stamp⟩ := (by simp at hg; first | exact hg | exact hg.1 | exact hg.1.1); have := place_hit h0; omega))) ?_
        refine .q .F (ok_fieldP fd94_2 rfl .ag) ?_
        refine .q .F (ok_load1 ty3 .ag) ?_
        refine .q .F (ok_fieldP fd70_4 rfl .tt) <| .q .F (ok_load1 ty3 .ag) ?_
        refine .q .F (ok_nei .ag .ag) ?_
        refine .o (ok_or .tt .c .pc) <| .o (ok_move .tt) <| .q .F (ok_move .tt) <| .q .F (ok_move .tt) ?_
        refine .q .F ((by first | exact ok_idxN un48 ty94 .ag .ag (fun hg => by have h0 : 0 ≤ placeOf (sideL x s) ⟨elt (elt x.calls k3).keys 0, (elt x.calls k3).stamp⟩ := (by simp at hg; first | exact hg | exact hg.1 | exact hg.1.1); have := place_hit h0; omega) | exact ok_idxM un48 ty94 .ag .ag (fun hg => by have h0 : 0 ≤ placeOf (sideL x s) ⟨elt (elt x.calls k3).keys 0, (elt x.calls k3).stamp⟩ := (by simp at hg; first | exact hg | exact hg.1 | exact hg.1.1); have := place_hit h0; omega) | exact ok_idx un48 ty94 .ag .ag (fun hg => by have h0 : 0 ≤ placeOf (sideL x s) ⟨elt (elt x.calls k3).keys 0, (elt x.calls k3).stamp⟩ := (by simp at hg; first | exact hg | exact hg.1 | exact hg.1.1); have := place_hit h0; omega))) ?_
        refine .q .F (ok_fieldP fd94_3 rfl .ag) ?_
        refine .q .F (ok_load1 ty3 .ag) ?_
        refine .q .F (ok_fieldP fd70_0 rfl .tt) <| .q .F (ok_load1 ty3 .ag) ?_
        refine .q .F (ok_nei .ag .ag) ?_
        refine .o (ok_or .tt .c .pc) <| .o (ok_move .tt) <| .q .F (ok_move .tt) <| .q .F (ok_move .tt) ?_
        refine .q .F ((by first | exact ok_idxN un48 ty94 .ag .ag (fun hg => by have h0 : 0 ≤ placeOf (sideL x s) ⟨elt (elt x.calls k3).keys 0, (elt x.calls k3).stamp⟩ := (by simp at hg; first | exact hg | exact hg.1 | exact hg.1.1); have := place_hit h0; omega) | exact ok_idxM un48 ty94 .ag .ag (fun hg => by have h0 : 0 ≤ placeOf (sideL x s) ⟨elt (elt x.calls k3).keys 0, (elt x.calls k3).stamp⟩ := (by simp at hg; first | exact hg | exact hg.1 | exact hg.1.1); have := place_hit h0; omega) | exact ok_idx un48 ty94 .ag .ag (fun hg => by have h0 : 0 ≤ placeOf (sideL x s) ⟨elt (elt x.calls k3).keys 0, (elt x.calls k3).stamp⟩ := (by simp at hg; first | exact hg | exact hg.1 | exact hg.1.1); have := place_hit h0; omega))) ?_
        refine .q .F (ok_fieldP fd94_4 rfl .ag) ?_
        refine .q .F (ok_load1 ty3 .ag) ?_
        refine .q .F (ok_fieldP fd70_1 rfl .tt) <| .q .F (ok_load1 ty3 .ag) ?_
        refine .q .F (ok_nei .ag .ag) ?_
        refine .o (ok_or .tt .c .pc) <| RunK.nil ?_
        intro I a w hs
        refine then_n ?_
        refine hs.cond .tt (fun hb10 => ?_) (fun hb10 => ?_)
        ·rw [put_test2] at hb10; replace hb10 := nt hb10
         refine wp_seq <| St.region <| hs.sc fun hs => wpList_nil <| then_n <| wp_ret <| block_r <| then_r <| then_r <| block_r <| then_r <| hs.ret rfl (.cons (.t rfl) ResL.nil) ?_
         exact ret_bool (by unfold sideSafe; rw [allN_false (f := fun i => callSafe (sideL x s) s (elt x.calls i)) hb8 ((call_put2 hb9).trans hb10)]; simp)
        ·rw [put_test2] at hb10; replace hb10 := nf hb10
         refine wp_skip <| block_n <| then_n <| St.region ?_
         refine hs.o (ok_add .tt .c (fun _ => by omega)) fun hs => ?_
         refine hs.m fun hs => wpList_nil <| then_n ?_
         have hs := hs.drop 4
         refine hs.again (k3 + 1) ?mu5 ?ok1005 (by rfl) ?env1005 (by repeat (first | exact Env.le_rfl | refine Env.le_push rfl ?_))
         case mu5 => omega
         case ok1005 => exact ⟨by omega, allN_next hall3 ((call_put2 hb9).trans hb10)⟩
         case env1005 => exact (Env.le_consE rfl (by first | rfl | (congr 1; done)) Env.le_nil)
      ·try simp only [B] at hb8
       refine wp_exit <| then_x <| then_x <| block_hit <| then_n <| wp_seq <| St.region <| hs.o (ok_fieldP fd89_4 rfl .tt) fun hs => hs.o (ok_load1 ty48 .tt) fun hs => hs.o (ok_fieldP fd89_4 rfl .tt) fun hs => hs.o (ok_load1 ty48 .tt) fun hs => ?_
       refine hs.o (ok_lit (lxs := [versCell (elt x.servers (2 * s).toNat).waits, versCell (elt x.servers (2 * s + 1).toNat).waits]) un208 ty48 rfl zo48 rfl rfl (Parts.c rfl rfl .tt (by first | exact one_val rfl | exact one_rows | exact one_ptr | exact one_fn) (Parts.c rfl rfl .tt (by first | exact one_val rfl | exact one_rows | exact one_ptr | exact one_fn) Parts.nil)) rfl rfl (by first | (simp; done) | (simp only [List.forall_mem_cons]; exact ⟨rfl, rfl, fun _ h => by simp at h⟩))) fun hs => ?_
       refine hs.o (ok_call (c_slices_Concat_impl_Ver_impl_Ver [(elt x.servers (2 * s).toNat).waits, (elt x.servers (2 * s + 1).toNat).waits] (by simp [sumLen]; omega)) (args_cons .r args_nil)) fun hs => ?_
       refine hs.s fun hs => wpList_nil <| then_n <| wp_seq <| St.region <| hs.m fun hs => hs.o (ok_fieldP fd35_4 rfl .tt) fun hs => hs.o (ok_load1 ty33 .tt) fun hs => hs.m fun hs => ?_
       refine hs.o ((by first | exact ok_idxN un33 ty65 .tt .tt (fun _ => by omega) | exact ok_idxM un33 ty65 .tt .tt (fun _ => by omega) | exact ok_idx un33 ty65 .tt .tt (fun _ => by omega))) fun hs => ?_
       refine hs.o (ok_load1 ty65 .tt) fun hs => ?_
       refine hs.o (ok_call (c_impl_hasAll ..) (args_cons .r (args_cons .r args_nil))) fun hs => ?_
       refine hs.m fun hs => hs.q .T (ok_move .tt) fun hs => hs.q .T (ok_makeFunc (args_cons .tt args_nil)) fun hs => hs.q .T (ok_call (c_slices_ContainsFunc_impl_Ver_impl_Ver ([(elt x.servers (2 * s).toNat).waits, (elt x.servers (2 * s + 1).toNat).waits] : List (List Ver)).flatten (waitBad (sideL x (1 - s))) _ (fun v _ => Fn.val (c_impl_Neck_sideSafe_1 v (sideL x (1 - s))))) (args_cons .ag (args_cons .ag args_nil))) fun hs => ?_
       refine hs.q .T (ok_not .ag) fun hs => ?_
       refine hs.o (ok_and .tt .pc .c) fun hs => hs.s fun hs => wpList_nil <| then_n <| wp_ret <| hs.ret rfl (.cons (.t rfl) ResL.nil) ?_
       exact ret_bool (by unfold sideSafe; rw [allN_true hall (by omega), show slotsSafe x s = true from allN_true hall2 (by unfold srv; omega), allN_true hall3 (by omega), flat_two]; rfl)

set_option maxHeartbeats 4000000 in
theorem c_impl_NeckSafe (x : Neck) (hf : x.Fit) (hl : x.calls.length ≤ 1048576) :
    Fn Tryz.prog 17 [x.av] (AV.bool (neckSafe x)) := by
 refine Fn.intro 13 Tryz.func17 rfl Tryz.ntmps17 rfl (by kernel_rfl) (fun W I a hs => ?_)
 refine wp_seq <| St.region <| hs.o (ok_boxP .tt) fun hs => hs.sc fun hs => wpList_nil <| then_n <| wp_seq <| St.region ?_
 refine hs.o ((by first | exact ok_loadA ty35 .tt rfl | exact ok_loadS ty35 .tt rfl)) fun hs => ?_
 refine hs.o (ok_call (c_impl_NeckOk x hf hl) (args_cons .tt args_nil)) fun hs => hs.m fun hs => ?_
 refine hs.q .T ((by first | exact ok_loadA ty35 .tt rfl | exact ok_loadS ty35 .tt rfl)) fun hs => ?_
 refine hs.q .T (ok_callG (fun hg => c_impl_Neck_sideSafe x 0 hg (by omega)) (args_cons .ag (args_cons .c args_nil))) fun hs => ?_
 refine hs.o (ok_and .tt .pc .c) fun hs => hs.m fun hs => ?_
 refine hs.q .T ((by first | exact ok_loadA ty35 .tt rfl | exact ok_loadS ty35 .tt rfl)) fun hs => ?_
 refine hs.q .T (ok_callG (fun hg => c_impl_Neck_sideSafe x 1 (by simp at hg; exact hg.1) (by omega)) (args_cons .ag (args_cons .c args_nil))) fun hs => ?_
 refine hs.o (ok_and .tt .pc .c) fun hs => hs.s fun hs => wpList_nil <| then_n <| wp_ret <| hs.ret rfl (.cons (.t rfl) ResL.nil) ?_
 rfl

end Go.Proofs.YtlppgilifnkapaaGreat
