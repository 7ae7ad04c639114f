/- Walks: arguments turned over, and compared with themselves. -/
import Derived.Test.YtlppgilifnkapaaGreatSize
set_option linter.unusedVariables false
set_option linter.unusedSimpArgs false
set_option maxRecDepth 100000
namespace Go.Proofs.YtlppgilifnkapaaGreat
open Go Go.RowKit


def partOf {α : Type} (f : α → List AV) (z : List AV) (l : List α) (k : Nat) : List (List AV) := (l.take k).map f ++ List.replicate (l.length - k) z
section
variable {α : Type} {f : α → List AV} {z : List AV} {l : List α} {k : Nat}
theorem partOf_len (h : k ≤ l.length) : (partOf f z l k).length = l.length := by simp [partOf]; omega
theorem partOf_zero : partOf f z l 0 = List.replicate l.length z := by simp [partOf]
theorem partOf_all (h : l.length ≤ k) : partOf f z l k = l.map f := by
  unfold partOf; rw [List.take_of_length_le h, show l.length - k = 0 from by omega]; simp
theorem partOf_get (h : k < l.length) : (partOf f z l k)[k]? = some z := by
  unfold partOf
  have e : ((l.take k).map f).length = k := by simp; omega
  rw [List.getElem?_append_right (by omega), e, Nat.sub_self, List.getElem?_replicate, if_pos (by omega)]
theorem partOf_set [Inhabited α] (h : k < l.length) : (partOf f z l k).set k (f (elt l k)) = partOf f z l (k + 1) := by
  unfold partOf
  have e : ((l.take k).map f).length = k := by simp; omega
  rw [List.set_append_right _ _ (by omega), e, Nat.sub_self, take_elt h, List.map_append, show l.length - k = (l.length - (k + 1)) + 1 from by omega, List.replicate_succ]
  simp
end

set_option maxHeartbeats 4000000 in
theorem c_laws_toStamp (x : Stamp) :
    Fn Tryz.prog 181 [x.av] (x.av) := by
 refine Fn.intro 11 Tryz.func181 rfl Tryz.ntmps181 rfl (by kernel_rfl) (fun W I a hs => ?_)
 refine wp_seq <| St.region <| hs.o (ok_boxP .tt) fun hs => hs.alloc rfl ty67 zc67 fun b2 I a w hs => wpList_nil <| then_n <| wp_seq <| St.region <| hs.alloc rfl ty67 zc67 fun b3 I a w hs => wpList_nil <| then_n <| wp_seq <| St.region <| hs.o (ok_fieldP fd125_0 rfl .tt) fun hs => hs.o (ok_load1 ty3 .tt) fun hs => hs.o (ok_fieldV fd67_0 rfl .tt) fun hs => ?_
 refine hs.store1 1 ty3 .tt .tt (by first | exact one_val rfl | exact one_rows | exact one_ptr | exact one_fn) rfl rfl fun a w hs => ?_
 refine wpList_nil <| then_n <| wp_seq <| St.region <| hs.o (ok_fieldP fd125_1 rfl .tt) fun hs => hs.o (ok_load1 ty3 .tt) fun hs => hs.o (ok_fieldV fd67_1 rfl .tt) fun hs => ?_
 refine hs.store1 1 ty3 .tt .tt (by first | exact one_val rfl | exact one_rows | exact one_ptr | exact one_fn) rfl rfl fun a w hs => ?_
 refine wpList_nil <| then_n <| wp_seq <| St.region <| hs.o (ok_loadBS 1 ty67 .tt rfl rfl rfl) fun hs => ?_
 refine hs.storeB 0 ty67 .tt .tt rfl (by first | rfl | assumption) rfl fun a w hs => ?_
 refine wpList_nil <| then_n <| wp_ret ?_
 refine hs.ret rfl (.cons (.s 0 ty67 rfl rfl (by first | rfl | assumption)) ResL.nil) ?_
 rfl

set_option maxHeartbeats 4000000 in
theorem c_laws_toDep (x : Dep) :
    Fn Tryz.prog 184 [x.av] (x.av) := by
 refine Fn.intro 12 Tryz.func184 rfl Tryz.ntmps184 rfl (by kernel_rfl) (fun W I a hs => ?_)
 refine wp_seq <| St.region <| hs.o (ok_boxP .tt) fun hs => hs.alloc rfl ty74 zc74 fun b2 I a w hs => wpList_nil <| then_n <| wp_seq <| St.region <| hs.alloc rfl ty74 zc74 fun b3 I a w hs => wpList_nil <| then_n <| wp_seq <| St.region <| hs.o (ok_fieldP fd194_0 rfl .tt) fun hs => hs.o (ok_load1 ty3 .tt) fun hs => hs.o (ok_fieldV fd74_0 rfl .tt) fun hs => ?_
 refine hs.store1 1 ty3 .tt .tt (by first | exact one_val rfl | exact one_rows | exact one_ptr | exact one_fn) rfl rfl fun a w hs => ?_
 refine wpList_nil <| then_n <| wp_seq <| St.region <| hs.o (ok_fieldP fd194_1 rfl .tt) fun hs => ?_
 refine hs.o ((by first | exact ok_loadA ty125 .tt rfl | exact ok_loadS ty125 .tt rfl)) fun hs => ?_
 refine hs.o (ok_call (c_laws_toStamp _) (args_cons .tt args_nil)) fun hs => hs.o (ok_fieldV fd74_1 rfl .tt) fun hs => hs.storeS 1 ty67 .tt .tt rfl rfl rfl fun a w hs => wpList_nil <| then_n <| wp_seq <| St.region <| hs.o (ok_loadBS 1 ty74 .tt rfl rfl rfl) fun hs => ?_
 refine hs.storeB 0 ty74 .tt .tt rfl (by first | rfl | assumption) rfl fun a w hs => ?_
 refine wpList_nil <| then_n <| wp_ret ?_
 refine hs.ret rfl (.cons (.s 0 ty74 rfl rfl (by first | rfl | assumption)) ResL.nil) ?_
 rfl

theorem c_laws_toDepS (l : List (Dep)) (h : wDepS l ≤ 1048576) :
    Fn Tryz.prog 108 [depsAV l] (depsAV l) := by
 refine Fn.intro 23 Tryz.func108 rfl Tryz.ntmps108 rfl (by kernel_rfl) (fun W I a hs => ?_)
 have hl : l.length ≤ 1048576 := by unfold wDepS at h; omega
 refine wp_seq <| St.region <| hs.sc fun hs => wpList_nil <| then_n <| wp_seq <| St.region <| hs.m fun hs => ?_
 refine hs.o ((by first | exact ok_lenM un121 .tt | exact ok_len un121 .tt | exact ok_lenV un121 .tt)) fun hs => ?_
 refine hs.make rfl un65 ty74 zc74 rfl .tt .tt (by omega) fun b7 a w hs => ?_
 change St _ _ ([] ++ [Own.row (.slice (some ⟨b7, 0, none⟩) l.length l.length) 74 3 (List.replicate l.length [AV.val (.int .i64 0), AV.val (.int .i64 0), AV.val (.int .i64 0)])]) _ _ _ at hs
 rw [← partOf_zero (f := Dep.cells)] at hs
 refine hs.s fun hs => wpList_nil <| then_n <| wp_seq <| wp_seq <| St.region <| hs.sc fun hs => wpList_nil <| then_n <| wp_block ?_
 refine St.loopS (σ := Nat) (4 :: 8 :: 9 :: 10 :: 11 :: 12 :: 13 :: 14 :: 15 :: 16 :: 17 :: 18 :: 19 :: 20 :: 21 :: []) ⟨fun k => [(4, AV.int k)], fun k => [Own.row (.slice (some ⟨b7, 0, none⟩) l.length l.length) 74 3 (partOf (Dep.cells) [AV.val (.int .i64 0), AV.val (.int .i64 0), AV.val (.int .i64 0)] l k)], fun k => k ≤ l.length⟩ (fun k => l.length - k) 0 hs rfl ?ok1 ?env1 ?round1
 case ok1 => exact Nat.zero_le _
 case env1 => exact (Env.le_consE rfl (by rfl) Env.le_nil)
 case round1 =>
  rintro k I a w hok hs
  have hk : k ≤ l.length := hok
  have hpl : (partOf (Dep.cells) [AV.val (.int .i64 0), AV.val (.int .i64 0), AV.val (.int .i64 0)] l k).length = l.length := partOf_len hk
  change St _ _ [Own.row (.slice (some ⟨b7, 0, none⟩) l.length l.length) 74 3 (partOf (Dep.cells) [AV.val (.int .i64 0), AV.val (.int .i64 0), AV.val (.int .i64 0)] l k)] _ _ _ at hs
  rw [← hpl] at hs
  refine wp_seq <| wp_seq <| St.region <| hs.m fun hs => hs.m fun hs => ?_
  refine hs.o ((by first | exact ok_lenM un121 .tt | exact ok_len un121 .tt | exact ok_lenV un121 .tt)) fun hs => ?_
  refine hs.o (ok_lss .tt .tt) fun hs => wpList_nil <| then_n ?_
  refine hs.cond .tt (fun hb1 => ?_) (fun hb1 => ?_)
  ·try simp only [B] at hb1
   refine wp_skip <| then_n <| wp_seq <| wp_block <| St.region <| hs.m fun hs => hs.m fun hs => hs.m fun hs => hs.m fun hs => ?_
   refine hs.o ((by first | exact ok_idxN un121 ty194 .tt .tt (fun _ => by omega) | exact ok_idxM un121 ty194 .tt .tt (fun _ => by omega) | exact ok_idx un121 ty194 .tt .tt (fun _ => by omega))) fun hs => ?_
   refine hs.o ((by first | exact ok_loadA ty194 .tt rfl | exact ok_loadS ty194 .tt rfl)) fun hs => ?_
   refine hs.o (ok_call (c_laws_toDep _) (args_cons .tt args_nil)) fun hs => ?_
   refine hs.o (ok_idxO un65 ty74 .tt .tt (fun _ => by omega)) fun hs => ?_
   refine hs.storeRS 0 ty74 .tt .tt rfl (by exact partOf_get hb1) rfl rfl fun a w hs => ?_
   refine wpList_nil <| block_n <| then_n <| St.region <| hs.m fun hs => ?_
   refine hs.o (ok_add .tt .c (fun _ => by omega)) fun hs => ?_
   refine hs.s fun hs => wpList_nil <| then_n ?_
   change St _ _ [Own.row (.slice (some ⟨b7, 0, none⟩) (partOf (Dep.cells) [AV.val (.int .i64 0), AV.val (.int .i64 0), AV.val (.int .i64 0)] l k).length (partOf (Dep.cells) [AV.val (.int .i64 0), AV.val (.int .i64 0), AV.val (.int .i64 0)] l k).length) 74 3 ((partOf (Dep.cells) [AV.val (.int .i64 0), AV.val (.int .i64 0), AV.val (.int .i64 0)] l k).set k (Dep.cells (elt l k)))] _ _ _ at hs
   rw [hpl, partOf_set hb1] at hs
   refine hs.again (k + 1) ?mu1 ?ok1001 (by rfl) ?env1001 (by repeat (first | exact Env.le_rfl | refine Env.le_push rfl ?_))
   case mu1 => omega
   case ok1001 => exact hb1
   case env1001 => exact (Env.le_consE rfl (by first | rfl | (congr 1; done)) Env.le_nil)
  ·try simp only [B] at hb1
   refine wp_exit <| then_x <| then_x <| block_hit <| then_n <| wp_seq <| St.region <| hs.m fun hs => hs.s fun hs => wpList_nil <| then_n <| wp_ret ?_
   rw [hpl, partOf_all (by omega)] at hs
   rw [show l.length = (l.map (Dep.cells)).length from (List.length_map _).symm] at hs
   obtain ⟨I, hs, hf⟩ := hs.freezeRow 0 rfl
   have hs := hs.upd (t := 2) rfl hf
   refine hs.ret rfl (.cons (by first | exact .t rfl | exact .nil rfl) ResL.nil) ?_
   rfl

theorem c_laws_toIntS (l : List (Int)) (h : wIntS l ≤ 1048576) :
    Fn Tryz.prog 182 [intsAV l] (intsAV l) := by
 refine Fn.intro 22 Tryz.func182 rfl Tryz.ntmps182 rfl (by kernel_rfl) (fun W I a hs => ?_)
 have hl : l.length ≤ 1048576 := by unfold wIntS at h; omega
 refine wp_seq <| St.region <| hs.sc fun hs => wpList_nil <| then_n <| wp_seq <| St.region <| hs.m fun hs => ?_
 refine hs.o ((by first | exact ok_lenM un64 .tt | exact ok_len un64 .tt | exact ok_lenV un64 .tt)) fun hs => ?_
 refine hs.make rfl un64 ty3 zc3 rfl .tt .tt (by omega) fun b7 a w hs => ?_
 change St _ _ ([] ++ [Own.row (.slice (some ⟨b7, 0, none⟩) l.length l.length) 3 1 (List.replicate l.length [AV.val (.int .i64 0)])]) _ _ _ at hs
 rw [← partOf_zero (f := intCell)] at hs
 refine hs.s fun hs => wpList_nil <| then_n <| wp_seq <| wp_seq <| St.region <| hs.sc fun hs => wpList_nil <| then_n <| wp_block ?_
 refine St.loopS (σ := Nat) (4 :: 8 :: 9 :: 10 :: 11 :: 12 :: 13 :: 14 :: 15 :: 16 :: 17 :: 18 :: 19 :: 20 :: []) ⟨fun k => [(4, AV.int k)], fun k => [Own.row (.slice (some ⟨b7, 0, none⟩) l.length l.length) 3 1 (partOf (intCell) [AV.val (.int .i64 0)] l k)], fun k => k ≤ l.length⟩ (fun k => l.length - k) 0 hs rfl ?ok1 ?env1 ?round1
 case ok1 => exact Nat.zero_le _
 case env1 => exact (Env.le_consE rfl (by rfl) Env.le_nil)
 case round1 =>
  rintro k I a w hok hs
  have hk : k ≤ l.length := hok
  have hpl : (partOf (intCell) [AV.val (.int .i64 0)] l k).length = l.length := partOf_len hk
  change St _ _ [Own.row (.slice (some ⟨b7, 0, none⟩) l.length l.length) 3 1 (partOf (intCell) [AV.val (.int .i64 0)] l k)] _ _ _ at hs
  rw [← hpl] at hs
  refine wp_seq <| wp_seq <| St.region <| hs.m fun hs => hs.m fun hs => ?_
  refine hs.o ((by first | exact ok_lenM un64 .tt | exact ok_len un64 .tt | exact ok_lenV un64 .tt)) fun hs => ?_
  refine hs.o (ok_lss .tt .tt) fun hs => wpList_nil <| then_n ?_
  refine hs.cond .tt (fun hb1 => ?_) (fun hb1 => ?_)
  ·try simp only [B] at hb1
   refine wp_skip <| then_n <| wp_seq <| wp_block <| St.region <| hs.m fun hs => hs.m fun hs => hs.m fun hs => hs.m fun hs => ?_
   refine hs.o ((by first | exact ok_idxN un64 ty3 .tt .tt (fun _ => by omega) | exact ok_idxM un64 ty3 .tt .tt (fun _ => by omega) | exact ok_idx un64 ty3 .tt .tt (fun _ => by omega))) fun hs => ?_
   refine hs.o (ok_load1 ty3 .tt) fun hs => ?_
   refine hs.o (ok_idxO un64 ty3 .tt .tt (fun _ => by omega)) fun hs => ?_
   refine hs.storeR1 (j := 0) 0 ty3 .tt .tt (by first | exact one_val rfl | exact one_rows | exact one_ptr | exact one_fn) rfl (by exact partOf_get hb1) rfl rfl fun a w hs => ?_
   refine wpList_nil <| block_n <| then_n <| St.region <| hs.m fun hs => ?_
   refine hs.o (ok_add .tt .c (fun _ => by omega)) fun hs => ?_
   refine hs.s fun hs => wpList_nil <| then_n ?_
   change St _ _ [Own.row (.slice (some ⟨b7, 0, none⟩) (partOf (intCell) [AV.val (.int .i64 0)] l k).length (partOf (intCell) [AV.val (.int .i64 0)] l k).length) 3 1 ((partOf (intCell) [AV.val (.int .i64 0)] l k).set k (intCell (elt l k)))] _ _ _ at hs
   rw [hpl, partOf_set hb1] at hs
   refine hs.again (k + 1) ?mu1 ?ok1001 (by rfl) ?env1001 (by repeat (first | exact Env.le_rfl | refine Env.le_push rfl ?_))
   case mu1 => omega
   case ok1001 => exact hb1
   case env1001 => exact (Env.le_consE rfl (by first | rfl | (congr 1; done)) Env.le_nil)
  ·try simp only [B] at hb1
   refine wp_exit <| then_x <| then_x <| block_hit <| then_n <| wp_seq <| St.region <| hs.m fun hs => hs.s fun hs => wpList_nil <| then_n <| wp_ret ?_
   rw [hpl, partOf_all (by omega)] at hs
   rw [show l.length = (l.map (intCell)).length from (List.length_map _).symm] at hs
   obtain ⟨I, hs, hf⟩ := hs.freezeRow 0 rfl
   have hs := hs.upd (t := 2) rfl hf
   refine hs.ret rfl (.cons (by first | exact .t rfl | exact .nil rfl) ResL.nil) ?_
   rfl

set_option maxHeartbeats 4000000 in
theorem c_laws_toSlot (x : Slot) :
    Fn Tryz.prog 240 [x.av] (x.av) := by
 refine Fn.intro 11 Tryz.func240 rfl Tryz.ntmps240 rfl (by kernel_rfl) (fun W I a hs => ?_)
 refine wp_seq <| St.region <| hs.o (ok_boxP .tt) fun hs => hs.alloc rfl ty91 zc91 fun b2 I a w hs => wpList_nil <| then_n <| wp_seq <| St.region <| hs.alloc rfl ty91 zc91 fun b3 I a w hs => wpList_nil <| then_n <| wp_seq <| St.region <| hs.o (ok_fieldP fd232_0 rfl .tt) fun hs => hs.o (ok_load1 ty3 .tt) fun hs => hs.o (ok_fieldV fd91_0 rfl .tt) fun hs => ?_
 refine hs.store1 1 ty3 .tt .tt (by first | exact one_val rfl | exact one_rows | exact one_ptr | exact one_fn) rfl rfl fun a w hs => ?_
 refine wpList_nil <| then_n <| wp_seq <| St.region <| hs.o (ok_fieldP fd232_1 rfl .tt) fun hs => hs.o (ok_load1 ty3 .tt) fun hs => hs.o (ok_fieldV fd91_1 rfl .tt) fun hs => ?_
 refine hs.store1 1 ty3 .tt .tt (by first | exact one_val rfl | exact one_rows | exact one_ptr | exact one_fn) rfl rfl fun a w hs => ?_
 refine wpList_nil <| then_n <| wp_seq <| St.region <| hs.o (ok_loadBS 1 ty91 .tt rfl rfl rfl) fun hs => ?_
 refine hs.storeB 0 ty91 .tt .tt rfl (by first | rfl | assumption) rfl fun a w hs => ?_
 refine wpList_nil <| then_n <| wp_ret ?_
 refine hs.ret rfl (.cons (.s 0 ty91 rfl rfl (by first | rfl | assumption)) ResL.nil) ?_
 rfl

theorem c_laws_toSlotS (l : List (Slot)) (h : wSlotS l ≤ 1048576) :
    Fn Tryz.prog 179 [slotsAV l] (slotsAV l) := by
 refine Fn.intro 23 Tryz.func179 rfl Tryz.ntmps179 rfl (by kernel_rfl) (fun W I a hs => ?_)
 have hl : l.length ≤ 1048576 := by unfold wSlotS at h; omega
 refine wp_seq <| St.region <| hs.sc fun hs => wpList_nil <| then_n <| wp_seq <| St.region <| hs.m fun hs => ?_
 refine hs.o ((by first | exact ok_lenM un119 .tt | exact ok_len un119 .tt | exact ok_lenV un119 .tt)) fun hs => ?_
 refine hs.make rfl un87 ty91 zc91 rfl .tt .tt (by omega) fun b7 a w hs => ?_
 change St _ _ ([] ++ [Own.row (.slice (some ⟨b7, 0, none⟩) l.length l.length) 91 2 (List.replicate l.length [AV.val (.int .i64 0), AV.val (.int .i64 0)])]) _ _ _ at hs
 rw [← partOf_zero (f := Slot.cells)] at hs
 refine hs.s fun hs => wpList_nil <| then_n <| wp_seq <| wp_seq <| St.region <| hs.sc fun hs => wpList_nil <| then_n <| wp_block ?_
 refine St.loopS (σ := Nat) (4 :: 8 :: 9 :: 10 :: 11 :: 12 :: 13 :: 14 :: 15 :: 16 :: 17 :: 18 :: 19 :: 20 :: 21 :: []) ⟨fun k => [(4, AV.int k)], fun k => [Own.row (.slice (some ⟨b7, 0, none⟩) l.length l.length) 91 2 (partOf (Slot.cells) [AV.val (.int .i64 0), AV.val (.int .i64 0)] l k)], fun k => k ≤ l.length⟩ (fun k => l.length - k) 0 hs rfl ?ok1 ?env1 ?round1
 case ok1 => exact Nat.zero_le _
 case env1 => exact (Env.le_consE rfl (by rfl) Env.le_nil)
 case round1 =>
  rintro k I a w hok hs
  have hk : k ≤ l.length := hok
  have hpl : (partOf (Slot.cells) [AV.val (.int .i64 0), AV.val (.int .i64 0)] l k).length = l.length := partOf_len hk
  change St _ _ [Own.row (.slice (some ⟨b7, 0, none⟩) l.length l.length) 91 2 (partOf (Slot.cells) [AV.val (.int .i64 0), AV.val (.int .i64 0)] l k)] _ _ _ at hs
  rw [← hpl] at hs
  refine wp_seq <| wp_seq <| St.region <| hs.m fun hs => hs.m fun hs => ?_
  refine hs.o ((by first | exact ok_lenM un119 .tt | exact ok_len un119 .tt | exact ok_lenV un119 .tt)) fun hs => ?_
  refine hs.o (ok_lss .tt .tt) fun hs => wpList_nil <| then_n ?_
  refine hs.cond .tt (fun hb1 => ?_) (fun hb1 => ?_)
  ·try simp only [B] at hb1
   refine wp_skip <| then_n <| wp_seq <| wp_block <| St.region <| hs.m fun hs => hs.m fun hs => hs.m fun hs => hs.m fun hs => ?_
   refine hs.o ((by first | exact ok_idxN un119 ty232 .tt .tt (fun _ => by omega) | exact ok_idxM un119 ty232 .tt .tt (fun _ => by omega) | exact ok_idx un119 ty232 .tt .tt (fun _ => by omega))) fun hs => ?_
   refine hs.o ((by first | exact ok_loadA ty232 .tt rfl | exact ok_loadS ty232 .tt rfl)) fun hs => ?_
   refine hs.o (ok_call (c_laws_toSlot _) (args_cons .tt args_nil)) fun hs => ?_
   refine hs.o (ok_idxO un87 ty91 .tt .tt (fun _ => by omega)) fun hs => ?_
   refine hs.storeRS 0 ty91 .tt .tt rfl (by exact partOf_get hb1) rfl rfl fun a w hs => ?_
   refine wpList_nil <| block_n <| then_n <| St.region <| hs.m fun hs => ?_
   refine hs.o (ok_add .tt .c (fun _ => by omega)) fun hs => ?_
   refine hs.s fun hs => wpList_nil <| then_n ?_
   change St _ _ [Own.row (.slice (some ⟨b7, 0, none⟩) (partOf (Slot.cells) [AV.val (.int .i64 0), AV.val (.int .i64 0)] l k).length (partOf (Slot.cells) [AV.val (.int .i64 0), AV.val (.int .i64 0)] l k).length) 91 2 ((partOf (Slot.cells) [AV.val (.int .i64 0), AV.val (.int .i64 0)] l k).set k (Slot.cells (elt l k)))] _ _ _ at hs
   rw [hpl, partOf_set hb1] at hs
   refine hs.again (k + 1) ?mu1 ?ok1001 (by rfl) ?env1001 (by repeat (first | exact Env.le_rfl | refine Env.le_push rfl ?_))
   case mu1 => omega
   case ok1001 => exact hb1
   case env1001 => exact (Env.le_consE rfl (by first | rfl | (congr 1; done)) Env.le_nil)
  ·try simp only [B] at hb1
   refine wp_exit <| then_x <| then_x <| block_hit <| then_n <| wp_seq <| St.region <| hs.m fun hs => hs.s fun hs => wpList_nil <| then_n <| wp_ret ?_
   rw [hpl, partOf_all (by omega)] at hs
   rw [show l.length = (l.map (Slot.cells)).length from (List.length_map _).symm] at hs
   obtain ⟨I, hs, hf⟩ := hs.freezeRow 0 rfl
   have hs := hs.upd (t := 2) rfl hf
   refine hs.ret rfl (.cons (by first | exact .t rfl | exact .nil rfl) ResL.nil) ?_
   rfl

set_option maxHeartbeats 4000000 in
theorem c_laws_toVer (x : Ver) (h : wVer x ≤ 1048576) :
    Fn Tryz.prog 241 [x.av] (x.av) := by
 refine Fn.intro 25 Tryz.func241 rfl Tryz.ntmps241 rfl (by kernel_rfl) (fun W I a hs => ?_)
 refine wp_seq <| St.region <| hs.o (ok_boxP .tt) fun hs => hs.alloc rfl ty94 zc94 fun b2 I a w hs => wpList_nil <| then_n <| wp_seq <| St.region <| hs.alloc rfl ty94 zc94 fun b3 I a w hs => wpList_nil <| then_n <| wp_seq <| St.region <| hs.o (ok_fieldP fd226_0 rfl .tt) fun hs => hs.o (ok_load1 ty3 .tt) fun hs => hs.o (ok_fieldV fd94_0 rfl .tt) fun hs => ?_
 refine hs.store1 1 ty3 .tt .tt (by first | exact one_val rfl | exact one_rows | exact one_ptr | exact one_fn) rfl rfl fun a w hs => ?_
 refine wpList_nil <| then_n <| wp_seq <| St.region <| hs.o (ok_fieldP fd226_1 rfl .tt) fun hs => ?_
 refine hs.o ((by first | exact ok_loadA ty125 .tt rfl | exact ok_loadS ty125 .tt rfl)) fun hs => ?_
 refine hs.o (ok_call (c_laws_toStamp _) (args_cons .tt args_nil)) fun hs => hs.o (ok_fieldV fd94_1 rfl .tt) fun hs => hs.storeS 1 ty67 .tt .tt rfl rfl rfl fun a w hs => wpList_nil <| then_n <| wp_seq <| St.region <| hs.o (ok_fieldP fd226_2 rfl .tt) fun hs => hs.o (ok_load1 ty3 .tt) fun hs => hs.o (ok_fieldV fd94_2 rfl .tt) fun hs => ?_
 refine hs.store1 1 ty3 .tt .tt (by first | exact one_val rfl | exact one_rows | exact one_ptr | exact one_fn) rfl rfl fun a w hs => ?_
 refine wpList_nil <| then_n <| wp_seq <| St.region <| hs.o (ok_fieldP fd226_3 rfl .tt) fun hs => hs.o (ok_load1 ty3 .tt) fun hs => hs.o (ok_fieldV fd94_3 rfl .tt) fun hs => ?_
 refine hs.store1 1 ty3 .tt .tt (by first | exact one_val rfl | exact one_rows | exact one_ptr | exact one_fn) rfl rfl fun a w hs => ?_
 refine wpList_nil <| then_n <| wp_seq <| St.region <| hs.o (ok_fieldP fd226_4 rfl .tt) fun hs => hs.o (ok_load1 ty3 .tt) fun hs => hs.o (ok_fieldV fd94_4 rfl .tt) fun hs => ?_
 refine hs.store1 1 ty3 .tt .tt (by first | exact one_val rfl | exact one_rows | exact one_ptr | exact one_fn) rfl rfl fun a w hs => ?_
 refine wpList_nil <| then_n <| wp_seq <| St.region <| hs.o (ok_fieldP fd226_5 rfl .tt) fun hs => hs.o (ok_load1 ty121 .tt) fun hs => ?_
 refine hs.o (ok_call (c_laws_toDepS x.deps (by unfold wVer at h; omega)) (args_cons .r args_nil)) fun hs => ?_
 refine hs.o (ok_fieldV fd94_5 rfl .tt) fun hs => ?_
 refine hs.store1 1 ty65 .tt .r (by first | exact one_val rfl | exact one_rows | exact one_ptr | exact one_fn) rfl rfl fun a w hs => ?_
 refine wpList_nil <| then_n <| wp_seq <| St.region <| hs.o (ok_loadBS 1 ty94 .tt rfl rfl rfl) fun hs => ?_
 refine hs.storeB 0 ty94 .tt .tt rfl (by first | rfl | assumption) rfl fun a w hs => ?_
 refine wpList_nil <| then_n <| wp_ret ?_
 refine hs.ret rfl (.cons (.s 0 ty94 rfl rfl (by first | rfl | assumption)) ResL.nil) ?_
 rfl

theorem c_laws_toVerS (l : List (Ver)) (h : wVerS l ≤ 1048576) :
    Fn Tryz.prog 180 [versAV l] (versAV l) := by
 refine Fn.intro 23 Tryz.func180 rfl Tryz.ntmps180 rfl (by kernel_rfl) (fun W I a hs => ?_)
 have hl : l.length ≤ 1048576 := by unfold wVerS at h; omega
 refine wp_seq <| St.region <| hs.sc fun hs => wpList_nil <| then_n <| wp_seq <| St.region <| hs.m fun hs => ?_
 refine hs.o ((by first | exact ok_lenM un120 .tt | exact ok_len un120 .tt | exact ok_lenV un120 .tt)) fun hs => ?_
 refine hs.make rfl un48 ty94 zc94 rfl .tt .tt (by omega) fun b7 a w hs => ?_
 change St _ _ ([] ++ [Own.row (.slice (some ⟨b7, 0, none⟩) l.length l.length) 94 7 (List.replicate l.length [AV.val (.int .i64 0), AV.val (.int .i64 0), AV.val (.int .i64 0), AV.val (.int .i64 0), AV.val (.int .i64 0), AV.val (.int .i64 0), AV.rows 3 []])]) _ _ _ at hs
 rw [← partOf_zero (f := Ver.cells)] at hs
 refine hs.s fun hs => wpList_nil <| then_n <| wp_seq <| wp_seq <| St.region <| hs.sc fun hs => wpList_nil <| then_n <| wp_block ?_
 refine St.loopS (σ := Nat) (4 :: 8 :: 9 :: 10 :: 11 :: 12 :: 13 :: 14 :: 15 :: 16 :: 17 :: 18 :: 19 :: 20 :: 21 :: []) ⟨fun k => [(4, AV.int k)], fun k => [Own.row (.slice (some ⟨b7, 0, none⟩) l.length l.length) 94 7 (partOf (Ver.cells) [AV.val (.int .i64 0), AV.val (.int .i64 0), AV.val (.int .i64 0), AV.val (.int .i64 0), AV.val (.int .i64 0), AV.val (.int .i64 0), AV.rows 3 []] l k)], fun k => k ≤ l.length⟩ (fun k => l.length - k) 0 hs rfl ?ok1 ?env1 ?round1
 case ok1 => exact Nat.zero_le _
 case env1 => exact (Env.le_consE rfl (by rfl) Env.le_nil)
 case round1 =>
  rintro k I a w hok hs
  have hk : k ≤ l.length := hok
  have hpl : (partOf (Ver.cells) [AV.val (.int .i64 0), AV.val (.int .i64 0), AV.val (.int .i64 0), AV.val (.int .i64 0), AV.val (.int .i64 0), AV.val (.int .i64 0), AV.rows 3 []] l k).length = l.length := partOf_len hk
  change St _ _ [Own.row (.slice (some ⟨b7, 0, none⟩) l.length l.length) 94 7 (partOf (Ver.cells) [AV.val (.int .i64 0), AV.val (.int .i64 0), AV.val (.int .i64 0), AV.val (.int .i64 0), AV.val (.int .i64 0), AV.val (.int .i64 0), AV.rows 3 []] l k)] _ _ _ at hs
  rw [← hpl] at hs
  refine wp_seq <| wp_seq <| St.region <| hs.m fun hs => hs.m fun hs => ?_
  refine hs.o ((by first | exact ok_lenM un120 .tt | exact ok_len un120 .tt | exact ok_lenV un120 .tt)) fun hs => ?_
  refine hs.o (ok_lss .tt .tt) fun hs => wpList_nil <| then_n ?_
  refine hs.cond .tt (fun hb1 => ?_) (fun hb1 => ?_)
  ·try simp only [B] at hb1
   refine wp_skip <| then_n <| wp_seq <| wp_block <| St.region <| hs.m fun hs => hs.m fun hs => hs.m fun hs => hs.m fun hs => ?_
   refine hs.o ((by first | exact ok_idxN un120 ty226 .tt .tt (fun _ => by omega) | exact ok_idxM un120 ty226 .tt .tt (fun _ => by omega) | exact ok_idx un120 ty226 .tt .tt (fun _ => by omega))) fun hs => ?_
   refine hs.o ((by first | exact ok_loadA ty226 .tt rfl | exact ok_loadS ty226 .tt rfl)) fun hs => ?_
   refine hs.o (ok_call (c_laws_toVer (elt l k) (by have := wSum_elt (f := wVer) hb1; unfold wVerS at h; omega)) (args_cons (.t rfl) args_nil)) fun hs => ?_
   refine hs.o (ok_idxO un48 ty94 .tt .tt (fun _ => by omega)) fun hs => ?_
   refine hs.storeRS 0 ty94 .tt .tt rfl (by exact partOf_get hb1) rfl rfl fun a w hs => ?_
   refine wpList_nil <| block_n <| then_n <| St.region <| hs.m fun hs => ?_
   refine hs.o (ok_add .tt .c (fun _ => by omega)) fun hs => ?_
   refine hs.s fun hs => wpList_nil <| then_n ?_
   change St _ _ [Own.row (.slice (some ⟨b7, 0, none⟩) (partOf (Ver.cells) [AV.val (.int .i64 0), AV.val (.int .i64 0), AV.val (.int .i64 0), AV.val (.int .i64 0), AV.val (.int .i64 0), AV.val (.int .i64 0), AV.rows 3 []] l k).length (partOf (Ver.cells) [AV.val (.int .i64 0), AV.val (.int .i64 0), AV.val (.int .i64 0), AV.val (.int .i64 0), AV.val (.int .i64 0), AV.val (.int .i64 0), AV.rows 3 []] l k).length) 94 7 ((partOf (Ver.cells) [AV.val (.int .i64 0), AV.val (.int .i64 0), AV.val (.int .i64 0), AV.val (.int .i64 0), AV.val (.int .i64 0), AV.val (.int .i64 0), AV.rows 3 []] l k).set k (Ver.cells (elt l k)))] _ _ _ at hs
   rw [hpl, partOf_set hb1] at hs
   refine hs.again (k + 1) ?mu1 ?ok1001 (by rfl) ?env1001 (by repeat (first | exact Env.le_rfl | refine Env.le_push rfl ?_))
   case mu1 => omega
   case ok1001 => exact hb1
   case env1001 => exact (Env.le_consE rfl (by first | rfl | (congr 1; done)) Env.le_nil)
  ·try simp only [B] at hb1
   refine wp_exit <| then_x <| then_x <| block_hit <| then_n <| wp_seq <| St.region <| hs.m fun hs => hs.s fun hs => wpList_nil <| then_n <| wp_ret ?_
   rw [hpl, partOf_all (by omega)] at hs
   rw [show l.length = (l.map (Ver.cells)).length from (List.length_map _).symm] at hs
   obtain ⟨I, hs, hf⟩ := hs.freezeRow 0 rfl
   have hs := hs.upd (t := 2) rfl hf
   refine hs.ret rfl (.cons (by first | exact .t rfl | exact .nil rfl) ResL.nil) ?_
   rfl

set_option maxHeartbeats 4000000 in
theorem c_laws_toWord (x : Word) (h : wWord x ≤ 1048576) :
    Fn Tryz.prog 106 [x.av] (x.av) := by
 refine Fn.intro 52 Tryz.func106 rfl Tryz.ntmps106 rfl (by kernel_rfl) (fun W I a hs => ?_)
 refine wp_seq <| St.region <| hs.o (ok_boxP .tt) fun hs => hs.alloc rfl ty137 zc137 fun b2 I a w hs => wpList_nil <| then_n <| wp_seq <| St.region <| hs.alloc rfl ty137 zc137 fun b3 I a w hs => wpList_nil <| then_n <| wp_seq <| St.region <| hs.o (ok_fieldP fd127_0 rfl .tt) fun hs => hs.o (ok_load1 ty3 .tt) fun hs => hs.o (ok_fieldV fd137_0 rfl .tt) fun hs => ?_
 refine hs.store1 1 ty3 .tt .tt (by first | exact one_val rfl | exact one_rows | exact one_ptr | exact one_fn) rfl rfl fun a w hs => ?_
 refine wpList_nil <| then_n <| wp_seq <| St.region <| hs.o (ok_fieldP fd127_1 rfl .tt) fun hs => hs.o (ok_load1 ty3 .tt) fun hs => hs.o (ok_fieldV fd137_1 rfl .tt) fun hs => ?_
 refine hs.store1 1 ty3 .tt .tt (by first | exact one_val rfl | exact one_rows | exact one_ptr | exact one_fn) rfl rfl fun a w hs => ?_
 refine wpList_nil <| then_n <| wp_seq <| St.region <| hs.o (ok_fieldP fd127_2 rfl .tt) fun hs => hs.o (ok_load1 ty3 .tt) fun hs => hs.o (ok_fieldV fd137_2 rfl .tt) fun hs => ?_
 refine hs.store1 1 ty3 .tt .tt (by first | exact one_val rfl | exact one_rows | exact one_ptr | exact one_fn) rfl rfl fun a w hs => ?_
 refine wpList_nil <| then_n <| wp_seq <| St.region <| hs.o (ok_fieldP fd127_3 rfl .tt) fun hs => hs.o (ok_load1 ty3 .tt) fun hs => hs.o (ok_fieldV fd137_3 rfl .tt) fun hs => ?_
 refine hs.store1 1 ty3 .tt .tt (by first | exact one_val rfl | exact one_rows | exact one_ptr | exact one_fn) rfl rfl fun a w hs => ?_
 refine wpList_nil <| then_n <| wp_seq <| St.region <| hs.o (ok_fieldP fd127_4 rfl .tt) fun hs => hs.o (ok_load1 ty3 .tt) fun hs => hs.o (ok_fieldV fd137_4 rfl .tt) fun hs => ?_
 refine hs.store1 1 ty3 .tt .tt (by first | exact one_val rfl | exact one_rows | exact one_ptr | exact one_fn) rfl rfl fun a w hs => ?_
 refine wpList_nil <| then_n <| wp_seq <| St.region <| hs.o (ok_fieldP fd127_5 rfl .tt) fun hs => ?_
 refine hs.o ((by first | exact ok_loadA ty125 .tt rfl | exact ok_loadS ty125 .tt rfl)) fun hs => ?_
 refine hs.o (ok_call (c_laws_toStamp _) (args_cons .tt args_nil)) fun hs => hs.o (ok_fieldV fd137_5 rfl .tt) fun hs => hs.storeS 1 ty67 .tt .tt rfl rfl rfl fun a w hs => wpList_nil <| then_n <| wp_seq <| St.region <| hs.o (ok_fieldP fd127_6 rfl .tt) fun hs => hs.o (ok_load1 ty3 .tt) fun hs => hs.o (ok_fieldV fd137_6 rfl .tt) fun hs => ?_
 refine hs.store1 1 ty3 .tt .tt (by first | exact one_val rfl | exact one_rows | exact one_ptr | exact one_fn) rfl rfl fun a w hs => ?_
 refine wpList_nil <| then_n <| wp_seq <| St.region <| hs.o (ok_fieldP fd127_7 rfl .tt) fun hs => hs.o (ok_load1 ty4 .tt) fun hs => hs.o (ok_fieldV fd137_7 rfl .tt) fun hs => ?_
 refine hs.store1 1 ty4 .tt .tt (by first | exact one_val rfl | exact one_rows | exact one_ptr | exact one_fn) rfl rfl fun a w hs => ?_
 refine wpList_nil <| then_n <| wp_seq <| St.region <| hs.o (ok_fieldP fd127_8 rfl .tt) fun hs => hs.o (ok_load1 ty121 .tt) fun hs => ?_
 refine hs.o (ok_call (c_laws_toDepS x.deps (by unfold wWord at h; omega)) (args_cons .r args_nil)) fun hs => ?_
 refine hs.o (ok_fieldV fd137_8 rfl .tt) fun hs => ?_
 refine hs.store1 1 ty65 .tt .r (by first | exact one_val rfl | exact one_rows | exact one_ptr | exact one_fn) rfl rfl fun a w hs => ?_
 refine wpList_nil <| then_n <| wp_seq <| St.region <| hs.o (ok_fieldP fd127_9 rfl .tt) fun hs => hs.o (ok_load1 ty3 .tt) fun hs => hs.o (ok_fieldV fd137_9 rfl .tt) fun hs => ?_
 refine hs.store1 1 ty3 .tt .tt (by first | exact one_val rfl | exact one_rows | exact one_ptr | exact one_fn) rfl rfl fun a w hs => ?_
 refine wpList_nil <| then_n <| wp_seq <| St.region <| hs.o (ok_fieldP fd127_10 rfl .tt) fun hs => hs.o (ok_load1 ty3 .tt) fun hs => hs.o (ok_fieldV fd137_10 rfl .tt) fun hs => ?_
 refine hs.store1 1 ty3 .tt .tt (by first | exact one_val rfl | exact one_rows | exact one_ptr | exact one_fn) rfl rfl fun a w hs => ?_
 refine wpList_nil <| then_n <| wp_seq <| St.region <| hs.o (ok_fieldP fd127_11 rfl .tt) fun hs => hs.o (ok_load1 ty120 .tt) fun hs => ?_
 refine hs.o (ok_call (c_laws_toVerS x.vers (by unfold wWord at h; omega)) (args_cons .r args_nil)) fun hs => ?_
 refine hs.o (ok_fieldV fd137_11 rfl .tt) fun hs => ?_
 refine hs.store1 1 ty48 .tt .r (by first | exact one_val rfl | exact one_rows | exact one_ptr | exact one_fn) rfl rfl fun a w hs => ?_
 refine wpList_nil <| then_n <| wp_seq <| St.region <| hs.o (ok_fieldP fd127_12 rfl .tt) fun hs => hs.o (ok_load1 ty120 .tt) fun hs => ?_
 refine hs.o (ok_call (c_laws_toVerS x.waits (by unfold wWord at h; omega)) (args_cons .r args_nil)) fun hs => ?_
 refine hs.o (ok_fieldV fd137_12 rfl .tt) fun hs => ?_
 refine hs.store1 1 ty48 .tt .r (by first | exact one_val rfl | exact one_rows | exact one_ptr | exact one_fn) rfl rfl fun a w hs => ?_
 refine wpList_nil <| then_n <| wp_seq <| St.region <| hs.o (ok_fieldP fd127_13 rfl .tt) fun hs => hs.o (ok_load1 ty121 .tt) fun hs => ?_
 refine hs.o (ok_call (c_laws_toDepS x.owes (by unfold wWord at h; omega)) (args_cons .r args_nil)) fun hs => ?_
 refine hs.o (ok_fieldV fd137_13 rfl .tt) fun hs => ?_
 refine hs.store1 1 ty65 .tt .r (by first | exact one_val rfl | exact one_rows | exact one_ptr | exact one_fn) rfl rfl fun a w hs => ?_
 refine wpList_nil <| then_n <| wp_seq <| St.region <| hs.o (ok_loadBS 1 ty137 .tt rfl rfl rfl) fun hs => ?_
 refine hs.storeB 0 ty137 .tt .tt rfl (by first | rfl | assumption) rfl fun a w hs => ?_
 refine wpList_nil <| then_n <| wp_ret ?_
 refine hs.ret rfl (.cons (.s 0 ty137 rfl rfl (by first | rfl | assumption)) ResL.nil) ?_
 rfl

theorem c_laws_toWordS (l : List (Word)) (h : wWordS l ≤ 1048576) :
    Fn Tryz.prog 42 [wordsAV l] (wordsAV l) := by
 refine Fn.intro 23 Tryz.func42 rfl Tryz.ntmps42 rfl (by kernel_rfl) (fun W I a hs => ?_)
 have hl : l.length ≤ 1048576 := by unfold wWordS at h; omega
 refine wp_seq <| St.region <| hs.sc fun hs => wpList_nil <| then_n <| wp_seq <| St.region <| hs.m fun hs => ?_
 refine hs.o ((by first | exact ok_lenM un23 .tt | exact ok_len un23 .tt | exact ok_lenV un23 .tt)) fun hs => ?_
 refine hs.make rfl un31 ty137 zc137 rfl .tt .tt (by omega) fun b7 a w hs => ?_
 change St _ _ ([] ++ [Own.row (.slice (some ⟨b7, 0, none⟩) l.length l.length) 137 15 (List.replicate l.length [AV.val (.int .i64 0), AV.val (.int .i64 0), AV.val (.int .i64 0), AV.val (.int .i64 0), AV.val (.int .i64 0), AV.val (.int .i64 0), AV.val (.int .i64 0), AV.val (.int .i64 0), AV.val (.bool false), AV.rows 3 [], AV.val (.int .i64 0), AV.val (.int .i64 0), AV.rows 7 [], AV.rows 7 [], AV.rows 3 []])]) _ _ _ at hs
 rw [← partOf_zero (f := Word.cells)] at hs
 refine hs.s fun hs => wpList_nil <| then_n <| wp_seq <| wp_seq <| St.region <| hs.sc fun hs => wpList_nil <| then_n <| wp_block ?_
 refine St.loopS (σ := Nat) (4 :: 8 :: 9 :: 10 :: 11 :: 12 :: 13 :: 14 :: 15 :: 16 :: 17 :: 18 :: 19 :: 20 :: 21 :: []) ⟨fun k => [(4, AV.int k)], fun k => [Own.row (.slice (some ⟨b7, 0, none⟩) l.length l.length) 137 15 (partOf (Word.cells) [AV.val (.int .i64 0), AV.val (.int .i64 0), AV.val (.int .i64 0), AV.val (.int .i64 0), AV.val (.int .i64 0), AV.val (.int .i64 0), AV.val (.int .i64 0), AV.val (.int .i64 0), AV.val (.bool false), AV.rows 3 [], AV.val (.int .i64 0), AV.val (.int .i64 0), AV.rows 7 [], AV.rows 7 [], AV.rows 3 []] l k)], fun k => k ≤ l.length⟩ (fun k => l.length - k) 0 hs rfl ?ok1 ?env1 ?round1
 case ok1 => exact Nat.zero_le _
 case env1 => exact (Env.le_consE rfl (by rfl) Env.le_nil)
 case round1 =>
  rintro k I a w hok hs
  have hk : k ≤ l.length := hok
  have hpl : (partOf (Word.cells) [AV.val (.int .i64 0), AV.val (.int .i64 0), AV.val (.int .i64 0), AV.val (.int .i64 0), AV.val (.int .i64 0), AV.val (.int .i64 0), AV.val (.int .i64 0), AV.val (.int .i64 0), AV.val (.bool false), AV.rows 3 [], AV.val (.int .i64 0), AV.val (.int .i64 0), AV.rows 7 [], AV.rows 7 [], AV.rows 3 []] l k).length = l.length := partOf_len hk
  change St _ _ [Own.row (.slice (some ⟨b7, 0, none⟩) l.length l.length) 137 15 (partOf (Word.cells) [AV.val (.int .i64 0), AV.val (.int .i64 0), AV.val (.int .i64 0), AV.val (.int .i64 0), AV.val (.int .i64 0), AV.val (.int .i64 0), AV.val (.int .i64 0), AV.val (.int .i64 0), AV.val (.bool false), AV.rows 3 [], AV.val (.int .i64 0), AV.val (.int .i64 0), AV.rows 7 [], AV.rows 7 [], AV.rows 3 []] l k)] _ _ _ at hs
  rw [← hpl] at hs
  refine wp_seq <| wp_seq <| St.region <| hs.m fun hs => hs.m fun hs => ?_
  refine hs.o ((by first | exact ok_lenM un23 .tt | exact ok_len un23 .tt | exact ok_lenV un23 .tt)) fun hs => ?_
  refine hs.o (ok_lss .tt .tt) fun hs => wpList_nil <| then_n ?_
  refine hs.cond .tt (fun hb1 => ?_) (fun hb1 => ?_)
  ·try simp only [B] at hb1
   refine wp_skip <| then_n <| wp_seq <| wp_block <| St.region <| hs.m fun hs => hs.m fun hs => hs.m fun hs => hs.m fun hs => ?_
   refine hs.o ((by first | exact ok_idxN un23 ty127 .tt .tt (fun _ => by omega) | exact ok_idxM un23 ty127 .tt .tt (fun _ => by omega) | exact ok_idx un23 ty127 .tt .tt (fun _ => by omega))) fun hs => ?_
   refine hs.o ((by first | exact ok_loadA ty127 .tt rfl | exact ok_loadS ty127 .tt rfl)) fun hs => ?_
   refine hs.o (ok_call (c_laws_toWord (elt l k) (by have := wSum_elt (f := wWord) hb1; unfold wWordS at h; omega)) (args_cons (.t rfl) args_nil)) fun hs => ?_
   refine hs.o (ok_idxO un31 ty137 .tt .tt (fun _ => by omega)) fun hs => ?_
   refine hs.storeRS 0 ty137 .tt .tt rfl (by exact partOf_get hb1) rfl rfl fun a w hs => ?_
   refine wpList_nil <| block_n <| then_n <| St.region <| hs.m fun hs => ?_
   refine hs.o (ok_add .tt .c (fun _ => by omega)) fun hs => ?_
   refine hs.s fun hs => wpList_nil <| then_n ?_
   change St _ _ [Own.row (.slice (some ⟨b7, 0, none⟩) (partOf (Word.cells) [AV.val (.int .i64 0), AV.val (.int .i64 0), AV.val (.int .i64 0), AV.val (.int .i64 0), AV.val (.int .i64 0), AV.val (.int .i64 0), AV.val (.int .i64 0), AV.val (.int .i64 0), AV.val (.bool false), AV.rows 3 [], AV.val (.int .i64 0), AV.val (.int .i64 0), AV.rows 7 [], AV.rows 7 [], AV.rows 3 []] l k).length (partOf (Word.cells) [AV.val (.int .i64 0), AV.val (.int .i64 0), AV.val (.int .i64 0), AV.val (.int .i64 0), AV.val (.int .i64 0), AV.val (.int .i64 0), AV.val (.int .i64 0), AV.val (.int .i64 0), AV.val (.bool false), AV.rows 3 [], AV.val (.int .i64 0), AV.val (.int .i64 0), AV.rows 7 [], AV.rows 7 [], AV.rows 3 []] l k).length) 137 15 ((partOf (Word.cells) [AV.val (.int .i64 0), AV.val (.int .i64 0), AV.val (.int .i64 0), AV.val (.int .i64 0), AV.val (.int .i64 0), AV.val (.int .i64 0), AV.val (.int .i64 0), AV.val (.int .i64 0), AV.val (.bool false), AV.rows 3 [], AV.val (.int .i64 0), AV.val (.int .i64 0), AV.rows 7 [], AV.rows 7 [], AV.rows 3 []] l k).set k (Word.cells (elt l k)))] _ _ _ at hs
   rw [hpl, partOf_set hb1] at hs
   refine hs.again (k + 1) ?mu1 ?ok1001 (by rfl) ?env1001 (by repeat (first | exact Env.le_rfl | refine Env.le_push rfl ?_))
   case mu1 => omega
   case ok1001 => exact hb1
   case env1001 => exact (Env.le_consE rfl (by first | rfl | (congr 1; done)) Env.le_nil)
  ·try simp only [B] at hb1
   refine wp_exit <| then_x <| then_x <| block_hit <| then_n <| wp_seq <| St.region <| hs.m fun hs => hs.s fun hs => wpList_nil <| then_n <| wp_ret ?_
   rw [hpl, partOf_all (by omega)] at hs
   rw [show l.length = (l.map (Word.cells)).length from (List.length_map _).symm] at hs
   obtain ⟨I, hs, hf⟩ := hs.freezeRow 0 rfl
   have hs := hs.upd (t := 2) rfl hf
   refine hs.ret rfl (.cons (by first | exact .t rfl | exact .nil rfl) ResL.nil) ?_
   rfl

set_option maxHeartbeats 4000000 in
theorem c_laws_toServer (x : Server) (h : wServer x ≤ 1048576) :
    Fn Tryz.prog 105 [x.av] (x.av) := by
 refine Fn.intro 31 Tryz.func105 rfl Tryz.ntmps105 rfl (by kernel_rfl) (fun W I a hs => ?_)
 refine wp_seq <| St.region <| hs.o (ok_boxP .tt) fun hs => hs.alloc rfl ty89 zc89 fun b2 I a w hs => wpList_nil <| then_n <| wp_seq <| St.region <| hs.alloc rfl ty89 zc89 fun b3 I a w hs => wpList_nil <| then_n <| wp_seq <| St.region <| hs.o (ok_fieldP fd123_0 rfl .tt) fun hs => hs.o (ok_load1 ty3 .tt) fun hs => hs.o (ok_fieldV fd89_0 rfl .tt) fun hs => ?_
 refine hs.store1 1 ty3 .tt .tt (by first | exact one_val rfl | exact one_rows | exact one_ptr | exact one_fn) rfl rfl fun a w hs => ?_
 refine wpList_nil <| then_n <| wp_seq <| St.region <| hs.o (ok_fieldP fd123_1 rfl .tt) fun hs => hs.o (ok_load1 ty4 .tt) fun hs => hs.o (ok_fieldV fd89_1 rfl .tt) fun hs => ?_
 refine hs.store1 1 ty4 .tt .tt (by first | exact one_val rfl | exact one_rows | exact one_ptr | exact one_fn) rfl rfl fun a w hs => ?_
 refine wpList_nil <| then_n <| wp_seq <| St.region <| hs.o (ok_fieldP fd123_2 rfl .tt) fun hs => hs.o (ok_load1 ty119 .tt) fun hs => ?_
 refine hs.o (ok_call (c_laws_toSlotS x.slots (by unfold wServer at h; omega)) (args_cons .r args_nil)) fun hs => ?_
 refine hs.o (ok_fieldV fd89_2 rfl .tt) fun hs => ?_
 refine hs.store1 1 ty87 .tt .r (by first | exact one_val rfl | exact one_rows | exact one_ptr | exact one_fn) rfl rfl fun a w hs => ?_
 refine wpList_nil <| then_n <| wp_seq <| St.region <| hs.o (ok_fieldP fd123_3 rfl .tt) fun hs => hs.o (ok_load1 ty120 .tt) fun hs => ?_
 refine hs.o (ok_call (c_laws_toVerS x.vers (by unfold wServer at h; omega)) (args_cons .r args_nil)) fun hs => ?_
 refine hs.o (ok_fieldV fd89_3 rfl .tt) fun hs => ?_
 refine hs.store1 1 ty48 .tt .r (by first | exact one_val rfl | exact one_rows | exact one_ptr | exact one_fn) rfl rfl fun a w hs => ?_
 refine wpList_nil <| then_n <| wp_seq <| St.region <| hs.o (ok_fieldP fd123_4 rfl .tt) fun hs => hs.o (ok_load1 ty120 .tt) fun hs => ?_
 refine hs.o (ok_call (c_laws_toVerS x.waits (by unfold wServer at h; omega)) (args_cons .r args_nil)) fun hs => ?_
 refine hs.o (ok_fieldV fd89_4 rfl .tt) fun hs => ?_
 refine hs.store1 1 ty48 .tt .r (by first | exact one_val rfl | exact one_rows | exact one_ptr | exact one_fn) rfl rfl fun a w hs => ?_
 refine wpList_nil <| then_n <| wp_seq <| St.region <| hs.o (ok_fieldP fd123_5 rfl .tt) fun hs => hs.o (ok_load1 ty121 .tt) fun hs => ?_
 refine hs.o (ok_call (c_laws_toDepS x.owes (by unfold wServer at h; omega)) (args_cons .r args_nil)) fun hs => ?_
 refine hs.o (ok_fieldV fd89_5 rfl .tt) fun hs => ?_
 refine hs.store1 1 ty65 .tt .r (by first | exact one_val rfl | exact one_rows | exact one_ptr | exact one_fn) rfl rfl fun a w hs => ?_
 refine wpList_nil <| then_n <| wp_seq <| St.region <| hs.o (ok_fieldP fd123_6 rfl .tt) fun hs => hs.o (ok_load1 ty121 .tt) fun hs => ?_
 refine hs.o (ok_call (c_laws_toDepS x.knows (by unfold wServer at h; omega)) (args_cons .r args_nil)) fun hs => ?_
 refine hs.o (ok_fieldV fd89_6 rfl .tt) fun hs => ?_
 refine hs.store1 1 ty65 .tt .r (by first | exact one_val rfl | exact one_rows | exact one_ptr | exact one_fn) rfl rfl fun a w hs => ?_
 refine wpList_nil <| then_n <| wp_seq <| St.region <| hs.o (ok_loadBS 1 ty89 .tt rfl rfl rfl) fun hs => ?_
 refine hs.storeB 0 ty89 .tt .tt rfl (by first | rfl | assumption) rfl fun a w hs => ?_
 refine wpList_nil <| then_n <| wp_ret ?_
 refine hs.ret rfl (.cons (.s 0 ty89 rfl rfl (by first | rfl | assumption)) ResL.nil) ?_
 rfl

theorem c_laws_toServerS (l : List (Server)) (h : wServerS l ≤ 1048576) :
    Fn Tryz.prog 41 [serversAV l] (serversAV l) := by
 refine Fn.intro 23 Tryz.func41 rfl Tryz.ntmps41 rfl (by kernel_rfl) (fun W I a hs => ?_)
 have hl : l.length ≤ 1048576 := by unfold wServerS at h; omega
 refine wp_seq <| St.region <| hs.sc fun hs => wpList_nil <| then_n <| wp_seq <| St.region <| hs.m fun hs => ?_
 refine hs.o ((by first | exact ok_lenM un22 .tt | exact ok_len un22 .tt | exact ok_lenV un22 .tt)) fun hs => ?_
 refine hs.make rfl un30 ty89 zc89 rfl .tt .tt (by omega) fun b7 a w hs => ?_
 change St _ _ ([] ++ [Own.row (.slice (some ⟨b7, 0, none⟩) l.length l.length) 89 7 (List.replicate l.length [AV.val (.int .i64 0), AV.val (.bool false), AV.rows 2 [], AV.rows 7 [], AV.rows 7 [], AV.rows 3 [], AV.rows 3 []])]) _ _ _ at hs
 rw [← partOf_zero (f := Server.cells)] at hs
 refine hs.s fun hs => wpList_nil <| then_n <| wp_seq <| wp_seq <| St.region <| hs.sc fun hs => wpList_nil <| then_n <| wp_block ?_
 refine St.loopS (σ := Nat) (4 :: 8 :: 9 :: 10 :: 11 :: 12 :: 13 :: 14 :: 15 :: 16 :: 17 :: 18 :: 19 :: 20 :: 21 :: []) ⟨fun k => [(4, AV.int k)], fun k => [Own.row (.slice (some ⟨b7, 0, none⟩) l.length l.length) 89 7 (partOf (Server.cells) [AV.val (.int .i64 0), AV.val (.bool false), AV.rows 2 [], AV.rows 7 [], AV.rows 7 [], AV.rows 3 [], AV.rows 3 []] l k)], fun k => k ≤ l.length⟩ (fun k => l.length - k) 0 hs rfl ?ok1 ?env1 ?round1
 case ok1 => exact Nat.zero_le _
 case env1 => exact (Env.le_consE rfl (by rfl) Env.le_nil)
 case round1 =>
  rintro k I a w hok hs
  have hk : k ≤ l.length := hok
  have hpl : (partOf (Server.cells) [AV.val (.int .i64 0), AV.val (.bool false), AV.rows 2 [], AV.rows 7 [], AV.rows 7 [], AV.rows 3 [], AV.rows 3 []] l k).length = l.length := partOf_len hk
  change St _ _ [Own.row (.slice (some ⟨b7, 0, none⟩) l.length l.length) 89 7 (partOf (Server.cells) [AV.val (.int .i64 0), AV.val (.bool false), AV.rows 2 [], AV.rows 7 [], AV.rows 7 [], AV.rows 3 [], AV.rows 3 []] l k)] _ _ _ at hs
  rw [← hpl] at hs
  refine wp_seq <| wp_seq <| St.region <| hs.m fun hs => hs.m fun hs => ?_
  refine hs.o ((by first | exact ok_lenM un22 .tt | exact ok_len un22 .tt | exact ok_lenV un22 .tt)) fun hs => ?_
  refine hs.o (ok_lss .tt .tt) fun hs => wpList_nil <| then_n ?_
  refine hs.cond .tt (fun hb1 => ?_) (fun hb1 => ?_)
  ·try simp only [B] at hb1
   refine wp_skip <| then_n <| wp_seq <| wp_block <| St.region <| hs.m fun hs => hs.m fun hs => hs.m fun hs => hs.m fun hs => ?_
   refine hs.o ((by first | exact ok_idxN un22 ty123 .tt .tt (fun _ => by omega) | exact ok_idxM un22 ty123 .tt .tt (fun _ => by omega) | exact ok_idx un22 ty123 .tt .tt (fun _ => by omega))) fun hs => ?_
   refine hs.o ((by first | exact ok_loadA ty123 .tt rfl | exact ok_loadS ty123 .tt rfl)) fun hs => ?_
   refine hs.o (ok_call (c_laws_toServer (elt l k) (by have := wSum_elt (f := wServer) hb1; unfold wServerS at h; omega)) (args_cons (.t rfl) args_nil)) fun hs => ?_
   refine hs.o (ok_idxO un30 ty89 .tt .tt (fun _ => by omega)) fun hs => ?_
   refine hs.storeRS 0 ty89 .tt .tt rfl (by exact partOf_get hb1) rfl rfl fun a w hs => ?_
   refine wpList_nil <| block_n <| then_n <| St.region <| hs.m fun hs => ?_
   refine hs.o (ok_add .tt .c (fun _ => by omega)) fun hs => ?_
   refine hs.s fun hs => wpList_nil <| then_n ?_
   change St _ _ [Own.row (.slice (some ⟨b7, 0, none⟩) (partOf (Server.cells) [AV.val (.int .i64 0), AV.val (.bool false), AV.rows 2 [], AV.rows 7 [], AV.rows 7 [], AV.rows 3 [], AV.rows 3 []] l k).length (partOf (Server.cells) [AV.val (.int .i64 0), AV.val (.bool false), AV.rows 2 [], AV.rows 7 [], AV.rows 7 [], AV.rows 3 [], AV.rows 3 []] l k).length) 89 7 ((partOf (Server.cells) [AV.val (.int .i64 0), AV.val (.bool false), AV.rows 2 [], AV.rows 7 [], AV.rows 7 [], AV.rows 3 [], AV.rows 3 []] l k).set k (Server.cells (elt l k)))] _ _ _ at hs
   rw [hpl, partOf_set hb1] at hs
   refine hs.again (k + 1) ?mu1 ?ok1001 (by rfl) ?env1001 (by repeat (first | exact Env.le_rfl | refine Env.le_push rfl ?_))
   case mu1 => omega
   case ok1001 => exact hb1
   case env1001 => exact (Env.le_consE rfl (by first | rfl | (congr 1; done)) Env.le_nil)
  ·try simp only [B] at hb1
   refine wp_exit <| then_x <| then_x <| block_hit <| then_n <| wp_seq <| St.region <| hs.m fun hs => hs.s fun hs => wpList_nil <| then_n <| wp_ret ?_
   rw [hpl, partOf_all (by omega)] at hs
   rw [show l.length = (l.map (Server.cells)).length from (List.length_map _).symm] at hs
   obtain ⟨I, hs, hf⟩ := hs.freezeRow 0 rfl
   have hs := hs.upd (t := 2) rfl hf
   refine hs.ret rfl (.cons (by first | exact .t rfl | exact .nil rfl) ResL.nil) ?_
   rfl

set_option maxHeartbeats 4000000 in
theorem c_laws_toAnswer (x : Answer) (h : wAnswer x ≤ 1048576) :
    Fn Tryz.prog 242 [x.av] (x.av) := by
 refine Fn.intro 15 Tryz.func242 rfl Tryz.ntmps242 rfl (by kernel_rfl) (fun W I a hs => ?_)
 refine wp_seq <| St.region <| hs.o (ok_boxP .tt) fun hs => hs.alloc rfl ty140 zc140 fun b2 I a w hs => wpList_nil <| then_n <| wp_seq <| St.region <| hs.alloc rfl ty140 zc140 fun b3 I a w hs => wpList_nil <| then_n <| wp_seq <| St.region <| hs.o (ok_fieldP fd229_0 rfl .tt) fun hs => hs.o (ok_load1 ty3 .tt) fun hs => hs.o (ok_fieldV fd140_0 rfl .tt) fun hs => ?_
 refine hs.store1 1 ty3 .tt .tt (by first | exact one_val rfl | exact one_rows | exact one_ptr | exact one_fn) rfl rfl fun a w hs => ?_
 refine wpList_nil <| then_n <| wp_seq <| St.region <| hs.o (ok_fieldP fd229_1 rfl .tt) fun hs => hs.o (ok_load1 ty4 .tt) fun hs => hs.o (ok_fieldV fd140_1 rfl .tt) fun hs => ?_
 refine hs.store1 1 ty4 .tt .tt (by first | exact one_val rfl | exact one_rows | exact one_ptr | exact one_fn) rfl rfl fun a w hs => ?_
 refine wpList_nil <| then_n <| wp_seq <| St.region <| hs.o (ok_fieldP fd229_2 rfl .tt) fun hs => ?_
 refine hs.o ((by first | exact ok_loadA ty226 .tt rfl | exact ok_loadS ty226 .tt rfl)) fun hs => ?_
 refine hs.o (ok_call (c_laws_toVer x.ver (by unfold wAnswer at h; omega)) (args_cons (.t rfl) args_nil)) fun hs => ?_
 refine hs.o (ok_fieldV fd140_2 rfl .tt) fun hs => hs.storeS 1 ty94 .tt .tt rfl rfl rfl fun a w hs => wpList_nil <| then_n <| wp_seq <| St.region <| hs.o (ok_loadBS 1 ty140 .tt rfl rfl rfl) fun hs => ?_
 refine hs.storeB 0 ty140 .tt .tt rfl (by first | rfl | assumption) rfl fun a w hs => ?_
 refine wpList_nil <| then_n <| wp_ret ?_
 refine hs.ret rfl (.cons (.s 0 ty140 rfl rfl (by first | rfl | assumption)) ResL.nil) ?_
 rfl

theorem c_laws_toAnswerS (l : List (Answer)) (h : wAnswerS l ≤ 1048576) :
    Fn Tryz.prog 183 [answersAV l] (answersAV l) := by
 refine Fn.intro 23 Tryz.func183 rfl Tryz.ntmps183 rfl (by kernel_rfl) (fun W I a hs => ?_)
 have hl : l.length ≤ 1048576 := by unfold wAnswerS at h; omega
 refine wp_seq <| St.region <| hs.sc fun hs => wpList_nil <| then_n <| wp_seq <| St.region <| hs.m fun hs => ?_
 refine hs.o ((by first | exact ok_lenM un129 .tt | exact ok_len un129 .tt | exact ok_lenV un129 .tt)) fun hs => ?_
 refine hs.make rfl un68 ty140 zc140 rfl .tt .tt (by omega) fun b7 a w hs => ?_
 change St _ _ ([] ++ [Own.row (.slice (some ⟨b7, 0, none⟩) l.length l.length) 140 9 (List.replicate l.length [AV.val (.int .i64 0), AV.val (.bool false), AV.val (.int .i64 0), AV.val (.int .i64 0), AV.val (.int .i64 0), AV.val (.int .i64 0), AV.val (.int .i64 0), AV.val (.int .i64 0), AV.rows 3 []])]) _ _ _ at hs
 rw [← partOf_zero (f := Answer.cells)] at hs
 refine hs.s fun hs => wpList_nil <| then_n <| wp_seq <| wp_seq <| St.region <| hs.sc fun hs => wpList_nil <| then_n <| wp_block ?_
 refine St.loopS (σ := Nat) (4 :: 8 :: 9 :: 10 :: 11 :: 12 :: 13 :: 14 :: 15 :: 16 :: 17 :: 18 :: 19 :: 20 :: 21 :: []) ⟨fun k => [(4, AV.int k)], fun k => [Own.row (.slice (some ⟨b7, 0, none⟩) l.length l.length) 140 9 (partOf (Answer.cells) [AV.val (.int .i64 0), AV.val (.bool false), AV.val (.int .i64 0), AV.val (.int .i64 0), AV.val (.int .i64 0), AV.val (.int .i64 0), AV.val (.int .i64 0), AV.val (.int .i64 0), AV.rows 3 []] l k)], fun k => k ≤ l.length⟩ (fun k => l.length - k) 0 hs rfl ?ok1 ?env1 ?round1
 case ok1 => exact Nat.zero_le _
 case env1 => exact (Env.le_consE rfl (by rfl) Env.le_nil)
 case round1 =>
  rintro k I a w hok hs
  have hk : k ≤ l.length := hok
  have hpl : (partOf (Answer.cells) [AV.val (.int .i64 0), AV.val (.bool false), AV.val (.int .i64 0), AV.val (.int .i64 0), AV.val (.int .i64 0), AV.val (.int .i64 0), AV.val (.int .i64 0), AV.val (.int .i64 0), AV.rows 3 []] l k).length = l.length := partOf_len hk
  change St _ _ [Own.row (.slice (some ⟨b7, 0, none⟩) l.length l.length) 140 9 (partOf (Answer.cells) [AV.val (.int .i64 0), AV.val (.bool false), AV.val (.int .i64 0), AV.val (.int .i64 0), AV.val (.int .i64 0), AV.val (.int .i64 0), AV.val (.int .i64 0), AV.val (.int .i64 0), AV.rows 3 []] l k)] _ _ _ at hs
  rw [← hpl] at hs
  refine wp_seq <| wp_seq <| St.region <| hs.m fun hs => hs.m fun hs => ?_
  refine hs.o ((by first | exact ok_lenM un129 .tt | exact ok_len un129 .tt | exact ok_lenV un129 .tt)) fun hs => ?_
  refine hs.o (ok_lss .tt .tt) fun hs => wpList_nil <| then_n ?_
  refine hs.cond .tt (fun hb1 => ?_) (fun hb1 => ?_)
  ·try simp only [B] at hb1
   refine wp_skip <| then_n <| wp_seq <| wp_block <| St.region <| hs.m fun hs => hs.m fun hs => hs.m fun hs => hs.m fun hs => ?_
   refine hs.o ((by first | exact ok_idxN un129 ty229 .tt .tt (fun _ => by omega) | exact ok_idxM un129 ty229 .tt .tt (fun _ => by omega) | exact ok_idx un129 ty229 .tt .tt (fun _ => by omega))) fun hs => ?_
   refine hs.o ((by first | exact ok_loadA ty229 .tt rfl | exact ok_loadS ty229 .tt rfl)) fun hs => ?_
   refine hs.o (ok_call (c_laws_toAnswer (elt l k) (by have := wSum_elt (f := wAnswer) hb1; unfold wAnswerS at h; omega)) (args_cons (.t rfl) args_nil)) fun hs => ?_
   refine hs.o (ok_idxO un68 ty140 .tt .tt (fun _ => by omega)) fun hs => ?_
   refine hs.storeRS 0 ty140 .tt .tt rfl (by exact partOf_get hb1) rfl rfl fun a w hs => ?_
   refine wpList_nil <| block_n <| then_n <| St.region <| hs.m fun hs => ?_
   refine hs.o (ok_add .tt .c (fun _ => by omega)) fun hs => ?_
   refine hs.s fun hs => wpList_nil <| then_n ?_
   change St _ _ [Own.row (.slice (some ⟨b7, 0, none⟩) (partOf (Answer.cells) [AV.val (.int .i64 0), AV.val (.bool false), AV.val (.int .i64 0), AV.val (.int .i64 0), AV.val (.int .i64 0), AV.val (.int .i64 0), AV.val (.int .i64 0), AV.val (.int .i64 0), AV.rows 3 []] l k).length (partOf (Answer.cells) [AV.val (.int .i64 0), AV.val (.bool false), AV.val (.int .i64 0), AV.val (.int .i64 0), AV.val (.int .i64 0), AV.val (.int .i64 0), AV.val (.int .i64 0), AV.val (.int .i64 0), AV.rows 3 []] l k).length) 140 9 ((partOf (Answer.cells) [AV.val (.int .i64 0), AV.val (.bool false), AV.val (.int .i64 0), AV.val (.int .i64 0), AV.val (.int .i64 0), AV.val (.int .i64 0), AV.val (.int .i64 0), AV.val (.int .i64 0), AV.rows 3 []] l k).set k (Answer.cells (elt l k)))] _ _ _ at hs
   rw [hpl, partOf_set hb1] at hs
   refine hs.again (k + 1) ?mu1 ?ok1001 (by rfl) ?env1001 (by repeat (first | exact Env.le_rfl | refine Env.le_push rfl ?_))
   case mu1 => omega
   case ok1001 => exact hb1
   case env1001 => exact (Env.le_consE rfl (by first | rfl | (congr 1; done)) Env.le_nil)
  ·try simp only [B] at hb1
   refine wp_exit <| then_x <| then_x <| block_hit <| then_n <| wp_seq <| St.region <| hs.m fun hs => hs.s fun hs => wpList_nil <| then_n <| wp_ret ?_
   rw [hpl, partOf_all (by omega)] at hs
   rw [show l.length = (l.map (Answer.cells)).length from (List.length_map _).symm] at hs
   obtain ⟨I, hs, hf⟩ := hs.freezeRow 0 rfl
   have hs := hs.upd (t := 2) rfl hf
   refine hs.ret rfl (.cons (by first | exact .t rfl | exact .nil rfl) ResL.nil) ?_
   rfl

set_option maxHeartbeats 4000000 in
theorem c_laws_toCall (x : Call) (h : wCall x ≤ 1048576) :
    Fn Tryz.prog 107 [x.av] (x.av) := by
 refine Fn.intro 46 Tryz.func107 rfl Tryz.ntmps107 rfl (by kernel_rfl) (fun W I a hs => ?_)
 refine wp_seq <| St.region <| hs.o (ok_boxP .tt) fun hs => hs.alloc rfl ty70 zc70 fun b2 I a w hs => wpList_nil <| then_n <| wp_seq <| St.region <| hs.alloc rfl ty70 zc70 fun b3 I a w hs => wpList_nil <| then_n <| wp_seq <| St.region <| hs.o (ok_fieldP fd131_0 rfl .tt) fun hs => hs.o (ok_load1 ty3 .tt) fun hs => hs.o (ok_fieldV fd70_0 rfl .tt) fun hs => ?_
 refine hs.store1 1 ty3 .tt .tt (by first | exact one_val rfl | exact one_rows | exact one_ptr | exact one_fn) rfl rfl fun a w hs => ?_
 refine wpList_nil <| then_n <| wp_seq <| St.region <| hs.o (ok_fieldP fd131_1 rfl .tt) fun hs => hs.o (ok_load1 ty3 .tt) fun hs => hs.o (ok_fieldV fd70_1 rfl .tt) fun hs => ?_
 refine hs.store1 1 ty3 .tt .tt (by first | exact one_val rfl | exact one_rows | exact one_ptr | exact one_fn) rfl rfl fun a w hs => ?_
 refine wpList_nil <| then_n <| wp_seq <| St.region <| hs.o (ok_fieldP fd131_2 rfl .tt) fun hs => hs.o (ok_load1 ty3 .tt) fun hs => hs.o (ok_fieldV fd70_2 rfl .tt) fun hs => ?_
 refine hs.store1 1 ty3 .tt .tt (by first | exact one_val rfl | exact one_rows | exact one_ptr | exact one_fn) rfl rfl fun a w hs => ?_
 refine wpList_nil <| then_n <| wp_seq <| St.region <| hs.o (ok_fieldP fd131_3 rfl .tt) fun hs => hs.o (ok_load1 ty64 .tt) fun hs => ?_
 refine hs.o (ok_call (c_laws_toIntS x.keys (by unfold wCall at h; omega)) (args_cons .r args_nil)) fun hs => ?_
 refine hs.o (ok_fieldV fd70_3 rfl .tt) fun hs => ?_
 refine hs.store1 1 ty64 .tt .r (by first | exact one_val rfl | exact one_rows | exact one_ptr | exact one_fn) rfl rfl fun a w hs => ?_
 refine wpList_nil <| then_n <| wp_seq <| St.region <| hs.o (ok_fieldP fd131_4 rfl .tt) fun hs => hs.o (ok_load1 ty3 .tt) fun hs => hs.o (ok_fieldV fd70_4 rfl .tt) fun hs => ?_
 refine hs.store1 1 ty3 .tt .tt (by first | exact one_val rfl | exact one_rows | exact one_ptr | exact one_fn) rfl rfl fun a w hs => ?_
 refine wpList_nil <| then_n <| wp_seq <| St.region <| hs.o (ok_fieldP fd131_5 rfl .tt) fun hs => hs.o (ok_load1 ty121 .tt) fun hs => ?_
 refine hs.o (ok_call (c_laws_toDepS x.ctx (by unfold wCall at h; omega)) (args_cons .r args_nil)) fun hs => ?_
 refine hs.o (ok_fieldV fd70_5 rfl .tt) fun hs => ?_
 refine hs.store1 1 ty65 .tt .r (by first | exact one_val rfl | exact one_rows | exact one_ptr | exact one_fn) rfl rfl fun a w hs => ?_
 refine wpList_nil <| then_n <| wp_seq <| St.region <| hs.o (ok_fieldP fd131_6 rfl .tt) fun hs => hs.o (ok_load1 ty3 .tt) fun hs => hs.o (ok_fieldV fd70_6 rfl .tt) fun hs => ?_
 refine hs.store1 1 ty3 .tt .tt (by first | exact one_val rfl | exact one_rows | exact one_ptr | exact one_fn) rfl rfl fun a w hs => ?_
 refine wpList_nil <| then_n <| wp_seq <| St.region <| hs.o (ok_fieldP fd131_7 rfl .tt) fun hs => hs.o (ok_load1 ty3 .tt) fun hs => hs.o (ok_fieldV fd70_7 rfl .tt) fun hs => ?_
 refine hs.store1 1 ty3 .tt .tt (by first | exact one_val rfl | exact one_rows | exact one_ptr | exact one_fn) rfl rfl fun a w hs => ?_
 refine wpList_nil <| then_n <| wp_seq <| St.region <| hs.o (ok_fieldP fd131_8 rfl .tt) fun hs => hs.o (ok_load1 ty4 .tt) fun hs => hs.o (ok_fieldV fd70_8 rfl .tt) fun hs => ?_
 refine hs.store1 1 ty4 .tt .tt (by first | exact one_val rfl | exact one_rows | exact one_ptr | exact one_fn) rfl rfl fun a w hs => ?_
 refine wpList_nil <| then_n <| wp_seq <| St.region <| hs.o (ok_fieldP fd131_9 rfl .tt) fun hs => ?_
 refine hs.o ((by first | exact ok_loadA ty125 .tt rfl | exact ok_loadS ty125 .tt rfl)) fun hs => ?_
 refine hs.o (ok_call (c_laws_toStamp _) (args_cons .tt args_nil)) fun hs => hs.o (ok_fieldV fd70_9 rfl .tt) fun hs => hs.storeS 1 ty67 .tt .tt rfl rfl rfl fun a w hs => wpList_nil <| then_n <| wp_seq <| St.region <| hs.o (ok_fieldP fd131_10 rfl .tt) fun hs => hs.o (ok_load1 ty129 .tt) fun hs => ?_
 refine hs.o (ok_call (c_laws_toAnswerS x.got (by unfold wCall at h; omega)) (args_cons .r args_nil)) fun hs => ?_
 refine hs.o (ok_fieldV fd70_10 rfl .tt) fun hs => ?_
 refine hs.store1 1 ty68 .tt .r (by first | exact one_val rfl | exact one_rows | exact one_ptr | exact one_fn) rfl rfl fun a w hs => ?_
 refine wpList_nil <| then_n <| wp_seq <| St.region <| hs.o (ok_fieldP fd131_11 rfl .tt) fun hs => hs.o (ok_load1 ty121 .tt) fun hs => ?_
 refine hs.o (ok_call (c_laws_toDepS x.needs (by unfold wCall at h; omega)) (args_cons .r args_nil)) fun hs => ?_
 refine hs.o (ok_fieldV fd70_11 rfl .tt) fun hs => ?_
 refine hs.store1 1 ty65 .tt .r (by first | exact one_val rfl | exact one_rows | exact one_ptr | exact one_fn) rfl rfl fun a w hs => ?_
 refine wpList_nil <| then_n <| wp_seq <| St.region <| hs.o (ok_loadBS 1 ty70 .tt rfl rfl rfl) fun hs => ?_
 refine hs.storeB 0 ty70 .tt .tt rfl (by first | rfl | assumption) rfl fun a w hs => ?_
 refine wpList_nil <| then_n <| wp_ret ?_
 refine hs.ret rfl (.cons (.s 0 ty70 rfl rfl (by first | rfl | assumption)) ResL.nil) ?_
 rfl

theorem c_laws_toCallS (l : List (Call)) (h : wCallS l ≤ 1048576) :
    Fn Tryz.prog 43 [callsAV l] (callsAV l) := by
 refine Fn.intro 23 Tryz.func43 rfl Tryz.ntmps43 rfl (by kernel_rfl) (fun W I a hs => ?_)
 have hl : l.length ≤ 1048576 := by unfold wCallS at h; omega
 refine wp_seq <| St.region <| hs.sc fun hs => wpList_nil <| then_n <| wp_seq <| St.region <| hs.m fun hs => ?_
 refine hs.o ((by first | exact ok_lenM un24 .tt | exact ok_len un24 .tt | exact ok_lenV un24 .tt)) fun hs => ?_
 refine hs.make rfl un32 ty70 zc70 rfl .tt .tt (by omega) fun b7 a w hs => ?_
 change St _ _ ([] ++ [Own.row (.slice (some ⟨b7, 0, none⟩) l.length l.length) 70 13 (List.replicate l.length [AV.val (.int .i64 0), AV.val (.int .i64 0), AV.val (.int .i64 0), AV.rows 1 [], AV.val (.int .i64 0), AV.rows 3 [], AV.val (.int .i64 0), AV.val (.int .i64 0), AV.val (.bool false), AV.val (.int .i64 0), AV.val (.int .i64 0), AV.rows 9 [], AV.rows 3 []])]) _ _ _ at hs
 rw [← partOf_zero (f := Call.cells)] at hs
 refine hs.s fun hs => wpList_nil <| then_n <| wp_seq <| wp_seq <| St.region <| hs.sc fun hs => wpList_nil <| then_n <| wp_block ?_
 refine St.loopS (σ := Nat) (4 :: 8 :: 9 :: 10 :: 11 :: 12 :: 13 :: 14 :: 15 :: 16 :: 17 :: 18 :: 19 :: 20 :: 21 :: []) ⟨fun k => [(4, AV.int k)], fun k => [Own.row (.slice (some ⟨b7, 0, none⟩) l.length l.length) 70 13 (partOf (Call.cells) [AV.val (.int .i64 0), AV.val (.int .i64 0), AV.val (.int .i64 0), AV.rows 1 [], AV.val (.int .i64 0), AV.rows 3 [], AV.val (.int .i64 0), AV.val (.int .i64 0), AV.val (.bool false), AV.val (.int .i64 0), AV.val (.int .i64 0), AV.rows 9 [], AV.rows 3 []] l k)], fun k => k ≤ l.length⟩ (fun k => l.length - k) 0 hs rfl ?ok1 ?env1 ?round1
 case ok1 => exact Nat.zero_le _
 case env1 => exact (Env.le_consE rfl (by rfl) Env.le_nil)
 case round1 =>
  rintro k I a w hok hs
  have hk : k ≤ l.length := hok
  have hpl : (partOf (Call.cells) [AV.val (.int .i64 0), AV.val (.int .i64 0), AV.val (.int .i64 0), AV.rows 1 [], AV.val (.int .i64 0), AV.rows 3 [], AV.val (.int .i64 0), AV.val (.int .i64 0), AV.val (.bool false), AV.val (.int .i64 0), AV.val (.int .i64 0), AV.rows 9 [], AV.rows 3 []] l k).length = l.length := partOf_len hk
  change St _ _ [Own.row (.slice (some ⟨b7, 0, none⟩) l.length l.length) 70 13 (partOf (Call.cells) [AV.val (.int .i64 0), AV.val (.int .i64 0), AV.val (.int .i64 0), AV.rows 1 [], AV.val (.int .i64 0), AV.rows 3 [], AV.val (.int .i64 0), AV.val (.int .i64 0), AV.val (.bool false), AV.val (.int .i64 0), AV.val (.int .i64 0), AV.rows 9 [], AV.rows 3 []] l k)] _ _ _ at hs
  rw [← hpl] at hs
  refine wp_seq <| wp_seq <| St.region <| hs.m fun hs => hs.m fun hs => ?_
  refine hs.o ((by first | exact ok_lenM un24 .tt | exact ok_len un24 .tt | exact ok_lenV un24 .tt)) fun hs => ?_
  refine hs.o (ok_lss .tt .tt) fun hs => wpList_nil <| then_n ?_
  refine hs.cond .tt (fun hb1 => ?_) (fun hb1 => ?_)
  ·try simp only [B] at hb1
   refine wp_skip <| then_n <| wp_seq <| wp_block <| St.region <| hs.m fun hs => hs.m fun hs => hs.m fun hs => hs.m fun hs => ?_
   refine hs.o ((by first | exact ok_idxN un24 ty131 .tt .tt (fun _ => by omega) | exact ok_idxM un24 ty131 .tt .tt (fun _ => by omega) | exact ok_idx un24 ty131 .tt .tt (fun _ => by omega))) fun hs => ?_
   refine hs.o ((by first | exact ok_loadA ty131 .tt rfl | exact ok_loadS ty131 .tt rfl)) fun hs => ?_
   refine hs.o (ok_call (c_laws_toCall (elt l k) (by have := wSum_elt (f := wCall) hb1; unfold wCallS at h; omega)) (args_cons (.t rfl) args_nil)) fun hs => ?_
   refine hs.o (ok_idxO un32 ty70 .tt .tt (fun _ => by omega)) fun hs => ?_
   refine hs.storeRS 0 ty70 .tt .tt rfl (by exact partOf_get hb1) rfl rfl fun a w hs => ?_
   refine wpList_nil <| block_n <| then_n <| St.region <| hs.m fun hs => ?_
   refine hs.o (ok_add .tt .c (fun _ => by omega)) fun hs => ?_
   refine hs.s fun hs => wpList_nil <| then_n ?_
   change St _ _ [Own.row (.slice (some ⟨b7, 0, none⟩) (partOf (Call.cells) [AV.val (.int .i64 0), AV.val (.int .i64 0), AV.val (.int .i64 0), AV.rows 1 [], AV.val (.int .i64 0), AV.rows 3 [], AV.val (.int .i64 0), AV.val (.int .i64 0), AV.val (.bool false), AV.val (.int .i64 0), AV.val (.int .i64 0), AV.rows 9 [], AV.rows 3 []] l k).length (partOf (Call.cells) [AV.val (.int .i64 0), AV.val (.int .i64 0), AV.val (.int .i64 0), AV.rows 1 [], AV.val (.int .i64 0), AV.rows 3 [], AV.val (.int .i64 0), AV.val (.int .i64 0), AV.val (.bool false), AV.val (.int .i64 0), AV.val (.int .i64 0), AV.rows 9 [], AV.rows 3 []] l k).length) 70 13 ((partOf (Call.cells) [AV.val (.int .i64 0), AV.val (.int .i64 0), AV.val (.int .i64 0), AV.rows 1 [], AV.val (.int .i64 0), AV.rows 3 [], AV.val (.int .i64 0), AV.val (.int .i64 0), AV.val (.bool false), AV.val (.int .i64 0), AV.val (.int .i64 0), AV.rows 9 [], AV.rows 3 []] l k).set k (Call.cells (elt l k)))] _ _ _ at hs
   rw [hpl, partOf_set hb1] at hs
   refine hs.again (k + 1) ?mu1 ?ok1001 (by rfl) ?env1001 (by repeat (first | exact Env.le_rfl | refine Env.le_push rfl ?_))
   case mu1 => omega
   case ok1001 => exact hb1
   case env1001 => exact (Env.le_consE rfl (by first | rfl | (congr 1; done)) Env.le_nil)
  ·try simp only [B] at hb1
   refine wp_exit <| then_x <| then_x <| block_hit <| then_n <| wp_seq <| St.region <| hs.m fun hs => hs.s fun hs => wpList_nil <| then_n <| wp_ret ?_
   rw [hpl, partOf_all (by omega)] at hs
   rw [show l.length = (l.map (Call.cells)).length from (List.length_map _).symm] at hs
   obtain ⟨I, hs, hf⟩ := hs.freezeRow 0 rfl
   have hs := hs.upd (t := 2) rfl hf
   refine hs.ret rfl (.cons (by first | exact .t rfl | exact .nil rfl) ResL.nil) ?_
   rfl

theorem c_laws_toDepSS (l : List (List Dep)) (h : wDepSS l ≤ 1048576) :
    Fn Tryz.prog 44 [seenAV l] (seenAV l) := by
 refine Fn.intro 23 Tryz.func44 rfl Tryz.ntmps44 rfl (by kernel_rfl) (fun W I a hs => ?_)
 have hl : l.length ≤ 1048576 := by unfold wDepSS at h; omega
 refine wp_seq <| St.region <| hs.sc fun hs => wpList_nil <| then_n <| wp_seq <| St.region <| hs.m fun hs => ?_
 refine hs.o ((by first | exact ok_lenM un25 .tt | exact ok_len un25 .tt | exact ok_lenV un25 .tt)) fun hs => ?_
 refine hs.make rfl un33 ty65 zc65 rfl .tt .tt (by omega) fun b7 a w hs => ?_
 change St _ _ ([] ++ [Own.row (.slice (some ⟨b7, 0, none⟩) l.length l.length) 65 1 (List.replicate l.length [AV.rows 3 []])]) _ _ _ at hs
 rw [← partOf_zero (f := depsCell)] at hs
 refine hs.s fun hs => wpList_nil <| then_n <| wp_seq <| wp_seq <| St.region <| hs.sc fun hs => wpList_nil <| then_n <| wp_block ?_
 refine St.loopS (σ := Nat) (4 :: 8 :: 9 :: 10 :: 11 :: 12 :: 13 :: 14 :: 15 :: 16 :: 17 :: 18 :: 19 :: 20 :: 21 :: []) ⟨fun k => [(4, AV.int k)], fun k => [Own.row (.slice (some ⟨b7, 0, none⟩) l.length l.length) 65 1 (partOf (depsCell) [AV.rows 3 []] l k)], fun k => k ≤ l.length⟩ (fun k => l.length - k) 0 hs rfl ?ok1 ?env1 ?round1
 case ok1 => exact Nat.zero_le _
 case env1 => exact (Env.le_consE rfl (by rfl) Env.le_nil)
 case round1 =>
  rintro k I a w hok hs
  have hk : k ≤ l.length := hok
  have hpl : (partOf (depsCell) [AV.rows 3 []] l k).length = l.length := partOf_len hk
  change St _ _ [Own.row (.slice (some ⟨b7, 0, none⟩) l.length l.length) 65 1 (partOf (depsCell) [AV.rows 3 []] l k)] _ _ _ at hs
  rw [← hpl] at hs
  refine wp_seq <| wp_seq <| St.region <| hs.m fun hs => hs.m fun hs => ?_
  refine hs.o ((by first | exact ok_lenM un25 .tt | exact ok_len un25 .tt | exact ok_lenV un25 .tt)) fun hs => ?_
  refine hs.o (ok_lss .tt .tt) fun hs => wpList_nil <| then_n ?_
  refine hs.cond .tt (fun hb1 => ?_) (fun hb1 => ?_)
  ·try simp only [B] at hb1
   refine wp_skip <| then_n <| wp_seq <| wp_block <| St.region <| hs.m fun hs => hs.m fun hs => hs.m fun hs => hs.m fun hs => ?_
   refine hs.o ((by first | exact ok_idxN un25 ty121 .tt .tt (fun _ => by omega) | exact ok_idxM un25 ty121 .tt .tt (fun _ => by omega) | exact ok_idx un25 ty121 .tt .tt (fun _ => by omega))) fun hs => ?_
   refine hs.o (ok_load1 ty121 .tt) fun hs => ?_
   refine hs.o (ok_call (c_laws_toDepS (elt l k) (by have := wSum_elt (f := wDepS) hb1; unfold wDepSS at h; omega)) (args_cons .r args_nil)) fun hs => ?_
   refine hs.o (ok_idxO un33 ty65 .tt .tt (fun _ => by omega)) fun hs => ?_
   refine hs.storeR1 (j := 0) 0 ty65 .tt .tt (by first | exact one_val rfl | exact one_rows | exact one_ptr | exact one_fn) rfl (by exact partOf_get hb1) rfl rfl fun a w hs => ?_
   refine wpList_nil <| block_n <| then_n <| St.region <| hs.m fun hs => ?_
   refine hs.o (ok_add .tt .c (fun _ => by omega)) fun hs => ?_
   refine hs.s fun hs => wpList_nil <| then_n ?_
   change St _ _ [Own.row (.slice (some ⟨b7, 0, none⟩) (partOf (depsCell) [AV.rows 3 []] l k).length (partOf (depsCell) [AV.rows 3 []] l k).length) 65 1 ((partOf (depsCell) [AV.rows 3 []] l k).set k (depsCell (elt l k)))] _ _ _ at hs
   rw [hpl, partOf_set hb1] at hs
   refine hs.again (k + 1) ?mu1 ?ok1001 (by rfl) ?env1001 (by repeat (first | exact Env.le_rfl | refine Env.le_push rfl ?_))
   case mu1 => omega
   case ok1001 => exact hb1
   case env1001 => exact (Env.le_consE rfl (by first | rfl | (congr 1; done)) Env.le_nil)
  ·try simp only [B] at hb1
   refine wp_exit <| then_x <| then_x <| block_hit <| then_n <| wp_seq <| St.region <| hs.m fun hs => hs.s fun hs => wpList_nil <| then_n <| wp_ret ?_
   rw [hpl, partOf_all (by omega)] at hs
   rw [show l.length = (l.map (depsCell)).length from (List.length_map _).symm] at hs
   obtain ⟨I, hs, hf⟩ := hs.freezeRow 0 rfl
   have hs := hs.upd (t := 2) rfl hf
   refine hs.ret rfl (.cons (by first | exact .t rfl | exact .nil rfl) ResL.nil) ?_
   rfl

set_option maxHeartbeats 4000000 in
theorem c_laws_toNeck (x : Neck) (h : wNeck x ≤ 1048576) :
    Fn Tryz.prog 11 [x.av] (x.av) := by
 refine Fn.intro 24 Tryz.func11 rfl Tryz.ntmps11 rfl (by kernel_rfl) (fun W I a hs => ?_)
 refine wp_seq <| St.region <| hs.o (ok_boxP .tt) fun hs => hs.alloc rfl ty35 zc35 fun b2 I a w hs => wpList_nil <| then_n <| wp_seq <| St.region <| hs.alloc rfl ty35 zc35 fun b3 I a w hs => wpList_nil <| then_n <| wp_seq <| St.region <| hs.o (ok_fieldP fd27_0 rfl .tt) fun hs => hs.o (ok_load1 ty3 .tt) fun hs => hs.o (ok_fieldV fd35_0 rfl .tt) fun hs => ?_
 refine hs.store1 1 ty3 .tt .tt (by first | exact one_val rfl | exact one_rows | exact one_ptr | exact one_fn) rfl rfl fun a w hs => ?_
 refine wpList_nil <| then_n <| wp_seq <| St.region <| hs.o (ok_fieldP fd27_1 rfl .tt) fun hs => hs.o (ok_load1 ty22 .tt) fun hs => ?_
 refine hs.o (ok_call (c_laws_toServerS x.servers (by unfold wNeck at h; omega)) (args_cons .r args_nil)) fun hs => ?_
 refine hs.o (ok_fieldV fd35_1 rfl .tt) fun hs => ?_
 refine hs.store1 1 ty30 .tt .r (by first | exact one_val rfl | exact one_rows | exact one_ptr | exact one_fn) rfl rfl fun a w hs => ?_
 refine wpList_nil <| then_n <| wp_seq <| St.region <| hs.o (ok_fieldP fd27_2 rfl .tt) fun hs => hs.o (ok_load1 ty23 .tt) fun hs => ?_
 refine hs.o (ok_call (c_laws_toWordS x.radio (by unfold wNeck at h; omega)) (args_cons .r args_nil)) fun hs => ?_
 refine hs.o (ok_fieldV fd35_2 rfl .tt) fun hs => ?_
 refine hs.store1 1 ty31 .tt .r (by first | exact one_val rfl | exact one_rows | exact one_ptr | exact one_fn) rfl rfl fun a w hs => ?_
 refine wpList_nil <| then_n <| wp_seq <| St.region <| hs.o (ok_fieldP fd27_3 rfl .tt) fun hs => hs.o (ok_load1 ty24 .tt) fun hs => ?_
 refine hs.o (ok_call (c_laws_toCallS x.calls (by unfold wNeck at h; omega)) (args_cons .r args_nil)) fun hs => ?_
 refine hs.o (ok_fieldV fd35_3 rfl .tt) fun hs => ?_
 refine hs.store1 1 ty32 .tt .r (by first | exact one_val rfl | exact one_rows | exact one_ptr | exact one_fn) rfl rfl fun a w hs => ?_
 refine wpList_nil <| then_n <| wp_seq <| St.region <| hs.o (ok_fieldP fd27_4 rfl .tt) fun hs => hs.o (ok_load1 ty25 .tt) fun hs => ?_
 refine hs.o (ok_call (c_laws_toDepSS x.seen (by unfold wNeck at h; omega)) (args_cons .r args_nil)) fun hs => ?_
 refine hs.o (ok_fieldV fd35_4 rfl .tt) fun hs => ?_
 refine hs.store1 1 ty33 .tt .r (by first | exact one_val rfl | exact one_rows | exact one_ptr | exact one_fn) rfl rfl fun a w hs => ?_
 refine wpList_nil <| then_n <| wp_seq <| St.region <| hs.o (ok_loadBS 1 ty35 .tt rfl rfl rfl) fun hs => ?_
 refine hs.storeB 0 ty35 .tt .tt rfl (by first | rfl | assumption) rfl fun a w hs => ?_
 refine wpList_nil <| then_n <| wp_ret ?_
 refine hs.ret rfl (.cons (.s 0 ty35 rfl rfl (by first | rfl | assumption)) ResL.nil) ?_
 rfl

end Go.Proofs.YtlppgilifnkapaaGreat
