/- Walks: what calls saw. -/
import Derived.Test.YtlppgilifnkapaaGreatCall1
import Derived.Test.YtlppgilifnkapaaGreatCall2
import Derived.Test.YtlppgilifnkapaaGreatCall3
set_option linter.unusedVariables false
set_option linter.unusedSimpArgs false
set_option maxRecDepth 100000
namespace Go.Proofs.YtlppgilifnkapaaGreat
open Go Go.RowKit


theorem fold_take {α β : Type} [Inhabited β] {f : α → β → α} {z : α} {l : List β} {k : Nat} (h : k < l.length) : (l.take (k + 1)).foldl f z = f ((l.take k).foldl f z) (elt l k) := by
  rw [take_elt h, List.foldl_append]; rfl
theorem goods_take {l : List Answer} (h : ∀ a ∈ l, ansGood a = true) (k : Nat) : ∀ a ∈ l.take k, ansGood a = true := fun a ha => h a (List.mem_of_mem_take ha)
theorem depsSame_len {x y : List Dep} (h : (x.length : Int) ≠ y.length) : depsSame x y = false := by
  unfold depsSame; simp; rintro rfl; exact h rfl
theorem depsSame_elt {x y : List Dep} {k : Nat} (h : decide (elt x k = elt y k) = false) : depsSame x y = false := by
  unfold depsSame; simp at h ⊢; rintro rfl; exact h rfl
theorem depsSame_all {x y : List Dep} (hl : (x.length : Int) = y.length) (h : ∀ i, i < x.length → decide (elt x i = elt y i) = true) : depsSame x y = true := by
  unfold depsSame; simp; exact elts_eq (by omega) fun i hi => by simpa using h i hi

theorem c_spec_l31Came (q : Call) (hg : ∀ y ∈ q.got, ansGood y = true) :
    Fn Tryz.prog 99 [q.av] (depsAV (cameD q)) := by
 refine Fn.intro 23 Tryz.func99 rfl Tryz.ntmps99 rfl (by kernel_rfl) (fun W I a hs => ?_)
 have lens : q.keys.length ≤ 9223372036854775807 ∧ q.got.length ≤ 9223372036854775807 ∧ q.needs.length ≤ 9223372036854775807 := by
    obtain ⟨cs, _, hc⟩ := hs.env 0 _ rfl
    obtain ⟨u1, _, h1, _⟩ := hc.get (i := 3) rfl
    obtain ⟨u2, _, h2, _⟩ := hc.get (i := 11) rfl
    obtain ⟨u3, _, h3, _⟩ := hc.get (i := 12) rfl
    exact ⟨rows_le h1, rows_le h2, rows_le h3⟩
 refine wp_seq <| St.region <| hs.o (ok_boxP .tt) fun hs => hs.sc fun hs => wpList_nil <| then_n <| wp_seq <| St.region ?_
 refine hs.lit0 rfl un65 ty74 (by decide) fun b5 I a w hs => ?_
 obtain ⟨I, hs, hf⟩ := hs.freezeRow 0 rfl
 have hs := hs.upd (t := 5) rfl hf; clear hf
 have hs := hs.drop 0
 refine hs.s fun hs => wpList_nil <| then_n <| wp_seq <| wp_seq <| St.region <| hs.sc fun hs => wpList_nil <| then_n <| wp_block ?_
 refine St.loopS (σ := Nat) (3 :: 4 :: 6 :: 7 :: 8 :: 9 :: 10 :: 11 :: 12 :: 13 :: 14 :: 15 :: 16 :: 17 :: 18 :: 19 :: 20 :: 21 :: []) ⟨fun k => [(4, AV.int k), (3, depsAV ((q.got.take k).foldl joinStep []))], fun k => [], fun k => k ≤ q.got.length⟩ (fun k => q.got.length - k) 0 hs rfl ?ok1 ?env1 ?round1
 case ok1 => exact Nat.zero_le _
 case env1 => exact (Env.le_consE rfl (by rfl) (Env.le_consE rfl (by rfl) Env.le_nil))
 case round1 =>
  rintro k I a w hok hs
  have hk : k ≤ q.got.length := hok
  refine wp_seq <| wp_seq <| St.region <| hs.m fun hs => hs.o (ok_fieldP fd70_10 rfl .tt) fun hs => hs.o (ok_load1 ty68 .tt) fun hs => ?_
  refine hs.o ((by first | exact ok_lenM un68 .tt | exact ok_len un68 .tt | exact ok_lenV un68 .tt)) fun hs => ?_
  refine hs.o (ok_lss .tt .tt) fun hs => wpList_nil <| then_n ?_
  refine hs.cond .tt (fun hb1 => ?_) (fun hb1 => ?_)
  ·try simp only [B] at hb1
   refine wp_skip <| then_n <| wp_seq <| wp_block <| St.region <| hs.m fun hs => hs.o (ok_fieldP fd70_10 rfl .tt) fun hs => hs.o (ok_load1 ty68 .tt) fun hs => hs.m fun hs => ?_
   refine hs.o ((by first | exact ok_idxN un68 ty140 .tt .tt (fun _ => by exact hb1) | exact ok_idxM un68 ty140 .tt .tt (fun _ => by exact hb1) | exact ok_idx un68 ty140 .tt .tt (fun _ => by exact hb1))) fun hs => ?_
   refine hs.o (ok_fieldP fd140_2 rfl .tt) fun hs => hs.o (ok_fieldP fd94_5 rfl .tt) fun hs => hs.o (ok_load1 ty65 .tt) fun hs => ?_
   refine hs.o (ok_call (c_spec_DepsJoin _ _ (join_fold (acc := []) rfl (goods_take hg k)).1 (ansGood_deps (hg _ (elt_mem hb1)))) (args_cons .r (args_cons .r args_nil))) fun hs => ?_
   refine hs.s fun hs => wpList_nil <| block_n <| then_n <| St.region <| hs.m fun hs => ?_
   refine hs.o (ok_add .tt .c (fun _ => by omega)) fun hs => ?_
   refine hs.s fun hs => wpList_nil <| then_n ?_
   refine hs.again (k + 1) ?mu1 ?ok1001 (by rfl) ?env1001 (by repeat (first | exact Env.le_rfl | refine Env.le_push rfl ?_))
   case mu1 => omega
   case ok1001 => exact hb1
   case env1001 => exact (Env.le_consE rfl (by rfl) (Env.le_consE rfl (by exact congrArg depsAV (by rw [fold_take hb1]; rfl)) Env.le_nil))
  ·try simp only [B] at hb1
   refine wp_exit <| then_x <| then_x <| block_hit <| then_n <| wp_seq <| St.region <| hs.m fun hs => hs.s fun hs => wpList_nil <| then_n <| wp_ret ?_
   refine hs.ret rfl (.cons (by first | exact .t rfl | exact .nil rfl) ResL.nil) ?_
   exact congrArg depsAV (by rw [List.take_of_length_le (by omega)]; rfl)

theorem c_spec_l43Read (q : Call) (hc : depsOk q.ctx = true) (hg : ∀ y ∈ q.got, ansGood y = true) :
    Fn Tryz.prog 39 [q.av] (AV.bool (currentB q)) := by
 refine Fn.intro 45 Tryz.func39 rfl Tryz.ntmps39 rfl (by kernel_rfl) (fun W I a hs => ?_)
 have lens : q.keys.length ≤ 9223372036854775807 ∧ q.got.length ≤ 9223372036854775807 ∧ q.needs.length ≤ 9223372036854775807 := by
    obtain ⟨cs, _, hc⟩ := hs.env 0 _ rfl
    obtain ⟨u1, _, h1, _⟩ := hc.get (i := 3) rfl
    obtain ⟨u2, _, h2, _⟩ := hc.get (i := 11) rfl
    obtain ⟨u3, _, h3, _⟩ := hc.get (i := 12) rfl
    exact ⟨rows_le h1, rows_le h2, rows_le h3⟩
 have hcd := (join_fold (acc := []) rfl hg).1
 refine wp_seq <| St.region <| hs.o (ok_boxP .tt) fun hs => hs.sc fun hs => wpList_nil <| then_n <| wp_seq <| St.region ?_
 refine hs.o ((by first | exact ok_loadA ty70 .tt rfl | exact ok_loadS ty70 .tt rfl)) fun hs => ?_
 refine hs.o (ok_call (c_spec_l31Came _ hg) (args_cons .tt args_nil)) fun hs => hs.s fun hs => wpList_nil <| then_n <| wp_seq <| wp_seq <| St.region <| hs.sc fun hs => wpList_nil <| then_n <| wp_block ?_
 refine St.loopS (σ := Nat) (2 :: 4 :: 5 :: 8 :: 9 :: 10 :: 11 :: 12 :: 13 :: 14 :: 15 :: 16 :: 17 :: 18 :: 19 :: 20 :: 21 :: 22 :: 23 :: 24 :: 25 :: 26 :: 27 :: 28 :: 29 :: 30 :: 31 :: 32 :: 33 :: 34 :: 35 :: 36 :: 37 :: 38 :: 39 :: 40 :: 41 :: 42 :: 43 :: 44 :: []) ⟨fun k => [(4, AV.int k)], fun k => [], fun k => k ≤ q.got.length ∧ ∀ i, i < k → (fun i => !stale2 q (elt q.got i)) i = true⟩ (fun k => q.got.length - k) 0 hs rfl ?ok1 ?env1 ?round1
 case ok1 => exact ⟨Nat.zero_le _, fun i hi => by omega⟩
 case env1 => exact (Env.le_consE rfl (by rfl) Env.le_nil)
 case round1 =>
  rintro k I a w hok hs
  obtain ⟨hk_k, hall⟩ := hok
  refine wp_seq <| wp_seq <| St.region <| hs.m fun hs => hs.o (ok_fieldP fd70_10 rfl .tt) fun hs => hs.o (ok_load1 ty68 .tt) fun hs => ?_
  refine hs.o ((by first | exact ok_lenM un68 .tt | exact ok_len un68 .tt | exact ok_lenV un68 .tt)) fun hs => ?_
  refine hs.o (ok_lss .tt .tt) fun hs => wpList_nil <| then_n ?_
  refine hs.cond .tt (fun hb1 => ?_) (fun hb1 => ?_)
  ·try simp only [B] at hb1
   refine wp_skip <| then_n <| wp_seq <| wp_block <| wp_seq <| St.region <| hs.o (ok_fieldP fd70_10 rfl .tt) fun hs => hs.o (ok_load1 ty68 .tt) fun hs => hs.m fun hs => ?_
   refine hs.o ((by first | exact ok_idxN un68 ty140 .tt .tt (fun _ => by exact hb1) | exact ok_idxM un68 ty140 .tt .tt (fun _ => by exact hb1) | exact ok_idx un68 ty140 .tt .tt (fun _ => by exact hb1))) fun hs => ?_
   refine hs.o (ok_fieldP fd140_2 rfl .tt) fun hs => hs.o (ok_fieldP fd94_1 rfl .tt) fun hs => ?_
   refine hs.o ((by first | exact ok_loadA ty67 .tt rfl | exact ok_loadS ty67 .tt rfl)) fun hs => ?_
   refine hs.alloc rfl ty67 zc67 fun b5 I a w hs => ?_
   refine hs.storeB 0 ty67 .tt .tt rfl (by first | rfl | assumption) rfl fun a w hs => ?_
   obtain ⟨I, hs, hf⟩ := hs.freezeBox 0 rfl
   have hs := hs.upd (t := 5) rfl hf; clear hf
   refine wpList_nil <| then_n <| wp_seq <| hs.dk ?_
   refine .o ((by first | exact ok_loadA ty67 .tt rfl | exact ok_loadS ty67 .tt rfl)) ?_
   refine .o (ok_move .tt) <| .o (ok_fieldP fd70_10 rfl .tt) <| .o (ok_load1 ty68 .tt) <| .o (ok_move .tt) ?_
   refine .o ((by first | exact ok_idxN un68 ty140 .tt .tt (fun _ => by exact hb1) | exact ok_idxM un68 ty140 .tt .tt (fun _ => by exact hb1) | exact ok_idx un68 ty140 .tt .tt (fun _ => by exact hb1))) ?_
   refine .o (ok_fieldP fd140_0 rfl .tt) <| .o (ok_load1 ty3 .tt) ?_
   refine .o (ok_call (c_spec_DepsAt _ _ hcd) (args_cons .r (args_cons .tt args_nil))) ?_
   refine .o (ok_call (c_spec_StampLess ..) (args_cons .tt (args_cons .tt args_nil))) <| .o (ok_move .tt) ?_
   refine .q .F ((by first | exact ok_loadA ty67 .tt rfl | exact ok_loadS ty67 .tt rfl)) ?_
   refine .q .F (ok_fieldP fd70_5 rfl .tt) <| .q .F (ok_load1 ty65 .ag) ?_
   refine .q .F (ok_fieldP fd70_10 rfl .tt) <| .q .F (ok_load1 ty68 .ag) ?_
   refine .q .F (ok_move .tt) ?_
   refine .q .F ((by first | exact ok_idxN un68 ty140 .ag .ag (fun hg => by exact hb1) | exact ok_idxM un68 ty140 .ag .ag (fun hg => by exact hb1) | exact ok_idx un68 ty140 .ag .ag (fun hg => by exact hb1))) ?_
   refine .q .F (ok_fieldP fd140_0 rfl .ag) ?_
   refine .q .F (ok_load1 ty3 .ag) ?_
   refine .q .F (ok_call (c_spec_DepsAt _ _ hc) (args_cons .ag (args_cons .ag args_nil))) ?_
   refine .q .F (ok_call (c_spec_StampLess ..) (args_cons .ag (args_cons .ag args_nil))) ?_
   refine .o (ok_or .tt .c .pc) <| RunK.nil ?_
   intro I a w hs
   refine then_n ?_
   refine hs.cond .tt (fun hb2 => ?_) (fun hb2 => ?_)
   ·change stale2 q (elt q.got k) = true at hb2
    refine wp_seq <| St.region <| hs.sc fun hs => wpList_nil <| then_n <| wp_ret <| block_r <| then_r <| then_r <| block_r <| then_r <| hs.ret rfl (.cons (.t rfl) ResL.nil) ?_
    exact ret_bool (by rw [← current_eq hc hg]; exact (allN_false (f := fun i => !stale2 q (elt q.got i)) hb1 (by rw [hb2]; rfl)).symm)
   ·change stale2 q (elt q.got k) = false at hb2
    refine wp_skip <| block_n <| then_n <| St.region <| hs.m fun hs => ?_
    refine hs.o (ok_add .tt .c (fun _ => by omega)) fun hs => ?_
    refine hs.s fun hs => wpList_nil <| then_n ?_
    have hs := hs.drop 0
    refine hs.again (k + 1) ?mu1 ?ok1001 (by rfl) ?env1001 (by repeat (first | exact Env.le_rfl | refine Env.le_push rfl ?_))
    case mu1 => omega
    case ok1001 => exact ⟨by omega, allN_next hall (by rw [hb2]; rfl)⟩
    case env1001 => exact (Env.le_consE rfl (by first | rfl | (congr 1; done)) Env.le_nil)
  ·try simp only [B] at hb1
   refine wp_exit <| then_x <| then_x <| block_hit <| then_n <| wp_seq <| St.region <| hs.sc fun hs => wpList_nil <| then_n <| wp_ret <| hs.ret rfl (.cons (.t rfl) ResL.nil) ?_
   exact ret_bool (by rw [← current_eq hc hg]; exact (allN_true hall (by omega)).symm)


theorem keysOk_put {q : Call} (h : keysOk q = true) (hk : q.kind = 1) : 0 < q.keys.length := by
  unfold keysOk at h
  rw [Bool.and_eq_true] at h
  have := h.2
  simp [hk] at this; omega
theorem saw_dep {q : Call} {t : Int} (h : callOk q t = true) (hk : q.kind = 1) (he : ¬ q.end_ = 0) : depOk ⟨elt q.keys 0, q.stamp⟩ = true := by
  have hp := callOk_parts h
  have hks : keysUp q.keys = true := by have := hp.2.2.1; unfold keysOk at this; rw [Bool.and_eq_true] at this; exact this.1
  have h1 := keysUp_key hks (elt_mem (keysOk_put hp.2.2.1 hk))
  simp only [callOk, callHead, Bool.and_eq_true] at h
  have hst : stampFits q.stamp = true := h.1.1.1.2
  have hend := h.2
  unfold callEnd at hend
  rw [if_neg he] at hend
  simp [hk] at hend
  simp only [stampFits, hend.2, Bool.false_or] at hst
  simp [depOk, h1, hst]

set_option maxHeartbeats 4000000 in
theorem c_spec_CallSaw (q : Call) (t : Int) (hq : callOk q t = true) (ht : q.begin_ + q.end_ ≤ 4611686018427387904) (hl : -4611686018427387904 ≤ q.end_) (hgl : q.got.length ≤ 1048576) :
    Fn Tryz.prog 40 [q.av] (depsAV (sawD q)) := by
 refine Fn.intro 68 Tryz.func40 rfl Tryz.ntmps40 rfl (by kernel_rfl) (fun W I a hs => ?_)
 have lens : q.keys.length ≤ 9223372036854775807 ∧ q.got.length ≤ 9223372036854775807 ∧ q.needs.length ≤ 9223372036854775807 := by
    obtain ⟨cs, _, hc⟩ := hs.env 0 _ rfl
    obtain ⟨u1, _, h1, _⟩ := hc.get (i := 3) rfl
    obtain ⟨u2, _, h2, _⟩ := hc.get (i := 11) rfl
    obtain ⟨u3, _, h3, _⟩ := hc.get (i := 12) rfl
    exact ⟨rows_le h1, rows_le h2, rows_le h3⟩
 have hp := callOk_parts hq
 have hcd := (join_fold (acc := []) rfl hp.2.1).1
 have hown := callOk_own hq
 have hc6 := depsOk_len6 hp.1
 have hjo : depsOk (joinD q.ctx (cameD q)) = true := depsOk_join hp.1 fun d hd => depsOk_all hcd hd
 have hse := saw_eq hp.1 hp.2.1
 refine wp_seq <| St.region <| hs.o (ok_boxP .tt) fun hs => hs.sc fun hs => wpList_nil <| then_n <| wp_seq <| wp_seq <| St.region ?_
 refine hs.o ((by first | exact ok_loadA ty70 .tt rfl | exact ok_loadS ty70 .tt rfl)) fun hs => ?_
 refine hs.o (ok_fieldP fd70_6 rfl .tt) fun hs => hs.o (ok_load1 ty3 .tt) fun hs => hs.o (ok_fieldP fd70_7 rfl .tt) fun hs => hs.o (ok_load1 ty3 .tt) fun hs => ?_
 refine hs.o (ok_add .tt .tt (fun _ => by omega)) fun hs => ?_
 refine hs.o (ok_call (c_spec_CallOk _ _ ht hgl) (args_cons .tt (args_cons .tt args_nil))) fun hs => hs.o (ok_not .tt) fun hs => wpList_nil <| then_n ?_
 refine hs.cond .tt (fun hb1 => ?_) (fun hb1 => ?_)
 ·exfalso; rw [hown] at hb1; cases hb1
  skip
 ·skip
  refine wp_skip <| then_n <| wp_seq <| St.region ?_
  refine hs.lit0 rfl un65 ty74 (by decide) fun b14 I a w hs => ?_
  refine hs.o (ok_fieldP fd70_5 rfl .tt) fun hs => hs.o (ok_load1 ty65 .tt) fun hs => ?_
  refine hs.append 0 rfl un65 ty74 rfl .tt .r rfl (by simp; omega) fun v17 a w hs => ?_
  obtain ⟨I, hs, hf⟩ := hs.freezeRow 0 rfl
  have hs := hs.upd (t := 17) rfl hf; clear hf
  have hs := hs.drop 0
  refine hs.s fun hs => wpList_nil <| then_n <| wp_seq <| wp_seq <| St.region <| hs.o (ok_fieldP fd70_7 rfl .tt) fun hs => hs.o (ok_load1 ty3 .tt) fun hs => hs.o (ok_eqi .tt .c) fun hs => wpList_nil <| then_n ?_
  refine hs.cond .tt (fun hb2 => ?_) (fun hb2 => ?_)
  ·try simp only [B] at hb2
   refine wp_seq <| St.region <| hs.m fun hs => hs.s fun hs => wpList_nil <| then_n <| wp_ret <| then_r ?_
   refine hs.ret rfl (.cons (by first | exact .t rfl | exact .nil rfl) ResL.nil) ?_
   exact congrArg depsAV (by unfold sawD; rw [if_pos hb2])
  ·try simp only [B] at hb2
   refine wp_skip <| then_n <| wp_seq <| wp_seq <| St.region <| hs.o (ok_fieldP fd70_2 rfl .tt) fun hs => hs.o (ok_load1 ty3 .tt) fun hs => hs.o (ok_eqi .tt .c) fun hs => wpList_nil <| then_n ?_
   refine hs.cond .tt (fun hb3 => ?_) (fun hb3 => ?_)
   ·try simp only [B] at hb3
    refine wp_seq <| hs.dk <| .o (ok_move .tt) <| .o (ok_fieldP fd70_3 rfl .tt) <| .o (ok_load1 ty64 .tt) ?_
    refine .o ((by first | exact ok_idxN un64 ty3 .tt .c (fun _ => by have := keysOk_put hp.2.2.1 hb3; omega) | exact ok_idxM un64 ty3 .tt .c (fun _ => by have := keysOk_put hp.2.2.1 hb3; omega) | exact ok_idx un64 ty3 .tt .c (fun _ => by have := keysOk_put hp.2.2.1 hb3; omega))) ?_
    refine .o (ok_load1 ty3 .tt) <| .o (ok_fieldP fd70_9 rfl .tt) ?_
    refine .o ((by first | exact ok_loadA ty67 .tt rfl | exact ok_loadS ty67 .tt rfl)) ?_
    refine .o (ok_build (l0 := [AV.val (.int .i64 0), AV.val (.int .i64 0), AV.val (.int .i64 0)]) ty74 fk74 zc74 rfl (Parts.c sp74_0 rfl .tt (by first | exact one_val rfl | exact one_rows | exact one_ptr | exact one_fn) (Parts.s sp74_1 rfl rfl .tt Parts.nil))) ?_
    refine .o (ok_call (c_spec_DepsPut _ ⟨elt q.keys 0, q.stamp⟩ hp.1 (saw_dep hq hb3 hb2)) (args_cons .r (args_cons .tt args_nil))) ?_
    refine .o (ok_assign .tt) <| RunK.nil ?_
    intro I a w hs
    refine then_n <| wp_ret <| then_r ?_
    refine hs.ret rfl (.cons (by first | exact .t rfl | exact .nil rfl) ResL.nil) ?_
    exact congrArg depsAV (by unfold sawD; rw [if_neg hb2, if_pos hb3])
   ·try simp only [B] at hb3
    refine wp_skip <| then_n <| wp_seq <| St.region <| hs.m fun hs => ?_
    refine hs.o ((by first | exact ok_loadA ty70 .tt rfl | exact ok_loadS ty70 .tt rfl)) fun hs => ?_
    refine hs.o (ok_call (c_spec_l31Came _ hp.2.1) (args_cons .tt args_nil)) fun hs => ?_
    refine hs.o (ok_call (c_spec_DepsJoin _ _ hp.1 hcd) (args_cons .r (args_cons .r args_nil))) fun hs => ?_
    refine hs.s fun hs => wpList_nil <| then_n <| wp_seq <| wp_seq <| St.region <| hs.sc fun hs => wpList_nil <| then_n <| wp_block ?_
    refine St.loopS (σ := Nat) (3 :: 4 :: 38 :: 39 :: 40 :: 41 :: 42 :: 43 :: 44 :: 45 :: 46 :: 47 :: 48 :: 49 :: 50 :: 51 :: 52 :: 53 :: 54 :: 55 :: 56 :: 57 :: 58 :: 59 :: 60 :: 61 :: 62 :: 63 :: 64 :: 65 :: 66 :: []) ⟨fun k => [(4, AV.int k), (3, depsAV ((q.got.take k).foldl sawStep2 (joinD q.ctx (cameD q))))], fun k => [], fun k => k ≤ q.got.length⟩ (fun k => q.got.length - k) 0 hs rfl ?ok1 ?env1 ?round1
    case ok1 => exact Nat.zero_le _
    case env1 => exact (Env.le_consE rfl (by rfl) (Env.le_consE rfl (by rfl) Env.le_nil))
    case round1 =>
     rintro k I a w hok hs
     have hk : k ≤ q.got.length := hok
     refine wp_seq <| wp_seq <| St.region <| hs.m fun hs => hs.o (ok_fieldP fd70_10 rfl .tt) fun hs => hs.o (ok_load1 ty68 .tt) fun hs => ?_
     refine hs.o ((by first | exact ok_lenM un68 .tt | exact ok_len un68 .tt | exact ok_lenV un68 .tt)) fun hs => ?_
     refine hs.o (ok_lss .tt .tt) fun hs => wpList_nil <| then_n ?_
     refine hs.cond .tt (fun hb4 => ?_) (fun hb4 => ?_)
     ·try simp only [B] at hb4
      refine wp_skip <| then_n <| wp_seq <| wp_block <| wp_seq <| St.region <| hs.o (ok_fieldP fd70_10 rfl .tt) fun hs => hs.o (ok_load1 ty68 .tt) fun hs => hs.m fun hs => ?_
      refine hs.o ((by first | exact ok_idxN un68 ty140 .tt .tt (fun _ => by exact hb4) | exact ok_idxM un68 ty140 .tt .tt (fun _ => by exact hb4) | exact ok_idx un68 ty140 .tt .tt (fun _ => by exact hb4))) fun hs => ?_
      refine hs.o (ok_fieldP fd140_1 rfl .tt) fun hs => hs.o (ok_load1 ty4 .tt) fun hs => wpList_nil <| then_n ?_
      refine hs.cond .tt (fun hb5 => ?_) (fun hb5 => ?_)
      ·try simp only [B] at hb5
       refine hs.dk <| .o (ok_move .tt) <| .o (ok_fieldP fd70_10 rfl .tt) <| .o (ok_load1 ty68 .tt) <| .o (ok_move .tt) ?_
       refine .o ((by first | exact ok_idxN un68 ty140 .tt .tt (fun _ => by exact hb4) | exact ok_idxM un68 ty140 .tt .tt (fun _ => by exact hb4) | exact ok_idx un68 ty140 .tt .tt (fun _ => by exact hb4))) ?_
       refine .o (ok_fieldP fd140_0 rfl .tt) <| .o (ok_load1 ty3 .tt) <| .o (ok_fieldP fd70_10 rfl .tt) <| .o (ok_load1 ty68 .tt) <| .o (ok_move .tt) ?_
       refine .o ((by first | exact ok_idxN un68 ty140 .tt .tt (fun _ => by exact hb4) | exact ok_idxM un68 ty140 .tt .tt (fun _ => by exact hb4) | exact ok_idx un68 ty140 .tt .tt (fun _ => by exact hb4))) ?_
       refine .o (ok_fieldP fd140_2 rfl .tt) <| .o (ok_fieldP fd94_1 rfl .tt) ?_
       refine .o ((by first | exact ok_loadA ty67 .tt rfl | exact ok_loadS ty67 .tt rfl)) ?_
       refine .o (ok_build (l0 := [AV.val (.int .i64 0), AV.val (.int .i64 0), AV.val (.int .i64 0)]) ty74 fk74 zc74 rfl (Parts.c sp74_0 rfl .tt (by first | exact one_val rfl | exact one_rows | exact one_ptr | exact one_fn) (Parts.s sp74_1 rfl rfl .tt Parts.nil))) ?_
       refine .o (ok_call (c_spec_DepsPut _ ⟨(elt q.got k).key, (elt q.got k).ver.stamp⟩ (saw2_fold hjo (goods_take hp.2.1 k)).1 (by have := ansGood_dep (hp.2.1 _ (elt_mem hb4)) hb5; rw [← this.2]; exact this.1)) (args_cons .r (args_cons (.t rfl) args_nil))) ?_
       refine .o (ok_assign .tt) <| RunK.nil ?_
       intro I a w hs
       refine block_n <| then_n <| St.region <| hs.m fun hs => ?_
       refine hs.o (ok_add .tt .c (fun _ => by omega)) fun hs => ?_
       refine hs.s fun hs => wpList_nil <| then_n ?_
       refine hs.again (k + 1) ?mu1 ?ok1001 (by rfl) ?env1001 (by repeat (first | exact Env.le_rfl | refine Env.le_push rfl ?_))
       case mu1 => omega
       case ok1001 => exact hb4
       case env1001 => exact (Env.le_consE rfl (by rfl) (Env.le_consE rfl (by exact congrArg depsAV (by rw [fold_take hb4]; unfold sawStep2; rw [hb5]; rfl)) Env.le_nil))
      ·try simp only [B] at hb5
       refine wp_skip <| block_n <| then_n <| St.region <| hs.m fun hs => ?_
       refine hs.o (ok_add .tt .c (fun _ => by omega)) fun hs => ?_
       refine hs.s fun hs => wpList_nil <| then_n ?_
       refine hs.again (k + 1) ?mu2 ?ok1002 (by rfl) ?env1002 (by repeat (first | exact Env.le_rfl | refine Env.le_push rfl ?_))
       case mu2 => omega
       case ok1002 => exact hb4
       case env1002 => exact (Env.le_consE rfl (by rfl) (Env.le_consE rfl (by exact congrArg depsAV (by rw [fold_take hb4]; unfold sawStep2; rw [hb5]; rfl)) Env.le_nil))
     ·try simp only [B] at hb4
      refine wp_exit <| then_x <| then_x <| block_hit <| then_n <| wp_seq <| St.region <| hs.m fun hs => hs.s fun hs => wpList_nil <| then_n <| wp_ret ?_
      refine hs.ret rfl (.cons (by first | exact .t rfl | exact .nil rfl) ResL.nil) ?_
      exact congrArg depsAV (by rw [List.take_of_length_le (by omega), ← hse]; unfold sawD2; rw [if_neg hb2, if_neg hb3])

theorem c_impl_Call_current_1 (x : Answer) (l : List Dep) :
    Fn Tryz.prog 119 [x.av, AV.ptr [depsAV l]] (AV.bool (!stampNone (atD l x.key) && older x (atD l x.key))) := by
 refine Fn.intro 17 Tryz.func119 rfl Tryz.ntmps119 rfl (by kernel_rfl) (fun W I a hs => ?_)
 refine wp_seq <| St.region <| hs.o (ok_boxP .tt) fun hs => hs.sc fun hs => wpList_nil <| then_n <| wp_seq <| St.region <| hs.o (ok_load1 ty65 .tt) fun hs => hs.o (ok_fieldP fd140_0 rfl .tt) fun hs => hs.o (ok_load1 ty3 .tt) fun hs => ?_
 refine hs.o (ok_call (c_impl_at ..) (args_cons .r (args_cons .tt args_nil))) fun hs => ?_
 refine hs.alloc rfl ty67 zc67 fun b4 I a w hs => ?_
 refine hs.storeB 0 ty67 .tt .tt rfl (by first | rfl | assumption) rfl fun a w hs => ?_
 obtain ⟨I, hs, hf⟩ := hs.freezeBox 0 rfl
 have hs := hs.upd (t := 4) rfl hf; clear hf
 refine wpList_nil <| then_n <| wp_seq <| St.region ?_
 refine hs.o ((by first | exact ok_loadA ty67 .tt rfl | exact ok_loadS ty67 .tt rfl)) fun hs => ?_
 refine hs.o (ok_call (c_impl_Stamp_none ..) (args_cons .tt args_nil)) fun hs => hs.o (ok_not .tt) fun hs => hs.m fun hs => ?_
 refine hs.q .T ((by first | exact ok_loadA ty140 .tt rfl | exact ok_loadS ty140 .tt rfl)) fun hs => ?_
 refine hs.q .T ((by first | exact ok_loadA ty67 .tt rfl | exact ok_loadS ty67 .tt rfl)) fun hs => ?_
 refine hs.q .T (ok_call (c_impl_Answer_older ..) (args_cons .ag (args_cons .ag args_nil))) fun hs => ?_
 refine hs.o (ok_and .tt .pc .c) fun hs => hs.s fun hs => wpList_nil <| then_n <| wp_ret <| hs.ret rfl (.cons (.t rfl) ResL.nil) ?_
 rfl

theorem c_impl_Call_current (q : Call) (hc : depsOk q.ctx = true) (hg : ∀ y ∈ q.got, ansGood y = true) :
    Fn Tryz.prog 46 [q.av] (AV.bool (currentB q)) := by
 refine Fn.intro 26 Tryz.func46 rfl Tryz.ntmps46 rfl (by kernel_rfl) (fun W I a hs => ?_)
 have lens : q.keys.length ≤ 9223372036854775807 ∧ q.got.length ≤ 9223372036854775807 ∧ q.needs.length ≤ 9223372036854775807 := by
    obtain ⟨cs, _, hc⟩ := hs.env 0 _ rfl
    obtain ⟨u1, _, h1, _⟩ := hc.get (i := 3) rfl
    obtain ⟨u2, _, h2, _⟩ := hc.get (i := 11) rfl
    obtain ⟨u3, _, h3, _⟩ := hc.get (i := 12) rfl
    exact ⟨rows_le h1, rows_le h2, rows_le h3⟩
 refine wp_seq <| St.region <| hs.o (ok_boxP .tt) fun hs => hs.sc fun hs => wpList_nil <| then_n <| wp_seq <| St.region <| hs.o (ok_fieldP fd70_5 rfl .tt) fun hs => hs.o (ok_load1 ty65 .tt) fun hs => hs.alloc rfl ty65 zc65 fun b3 I a w hs => ?_
 refine hs.storeB1 0 ty65 .tt .r (by first | exact one_val rfl | exact one_rows | exact one_ptr | exact one_fn) rfl rfl fun a w hs => ?_
 refine wpList_nil <| then_n <| wp_seq <| wp_seq <| St.region <| hs.o (ok_fieldP fd70_10 rfl .tt) fun hs => hs.o (ok_load1 ty68 .tt) fun hs => ?_
 refine hs.o ((by first | exact ok_lenM un68 .tt | exact ok_len un68 .tt | exact ok_lenV un68 .tt)) fun hs => ?_
 refine hs.mc fun hs => wpList_nil <| then_n <| wp_block ?_
 refine St.loopS (σ := Nat) (5 :: 11 :: 12 :: 13 :: 14 :: 15 :: 16 :: 17 :: 18 :: 19 :: 20 :: []) ⟨fun k => [(11, AV.int k)], fun k => [Own.box b3 65 [depsAV ((q.got.take k).foldl joinStep q.ctx)]], fun k => k ≤ q.got.length⟩ (fun k => q.got.length - k) 0 hs rfl ?ok1 ?env1 ?round1
 case ok1 => exact Nat.zero_le _
 case env1 => exact (Env.le_consE rfl (by rfl) Env.le_nil)
 case round1 =>
  rintro k I a w hok hs
  have hk : k ≤ q.got.length := hok
  refine wp_seq <| St.region <| hs.o (ok_lss .tt .tt) fun hs => wpList_nil <| then_n <| wp_seq ?_
  refine hs.cond .tt (fun hb1 => ?_) (fun hb1 => ?_)
  ·try simp only [B] at hb1
   refine wp_skip <| then_n <| wp_seq <| wp_block <| wp_seq <| St.region ?_
   refine hs.o ((by first | exact ok_idxN un68 ty140 .tt .tt (fun _ => by exact hb1) | exact ok_idxM un68 ty140 .tt .tt (fun _ => by exact hb1) | exact ok_idx un68 ty140 .tt .tt (fun _ => by exact hb1))) fun hs => ?_
   refine hs.o ((by first | exact ok_loadA ty140 .tt rfl | exact ok_loadS ty140 .tt rfl)) fun hs => ?_
   refine hs.alloc rfl ty140 zc140 fun b5 I a w hs => ?_
   refine hs.storeB 1 ty140 .tt .tt rfl (by first | rfl | assumption) rfl fun a w hs => ?_
   obtain ⟨I, hs, hf⟩ := hs.freezeBox 1 rfl
   have hs := hs.upd (t := 5) rfl hf; clear hf
   refine wpList_nil <| then_n <| St.region <| hs.o (ok_loadB 0 ty65 .tt rfl rfl) fun hs => hs.o (ok_fieldP fd140_2 rfl .tt) fun hs => hs.o (ok_fieldP fd94_5 rfl .tt) fun hs => hs.o (ok_load1 ty65 .tt) fun hs => ?_
   refine hs.o (ok_call (c_impl_join _ _ (join_fold hc (goods_take hg k)).1 (ansGood_deps (hg _ (elt_mem hb1)))) (args_cons .r (args_cons .r args_nil))) fun hs => ?_
   refine hs.storeB1 0 ty65 .tt .r (by first | exact one_val rfl | exact one_rows | exact one_ptr | exact one_fn) rfl rfl fun a w hs => ?_
   refine wpList_nil <| block_n <| then_n <| St.region ?_
   refine hs.o (ok_add .tt .c (fun _ => by omega)) fun hs => ?_
   refine hs.m fun hs => wpList_nil <| then_n ?_
   have hs := hs.drop 1
   rw [show joinD ((q.got.take k).foldl joinStep q.ctx) (elt q.got k).ver.deps = (q.got.take (k + 1)).foldl joinStep q.ctx by rw [fold_take hb1]; rfl] at hs
   refine hs.again (k + 1) ?mu1 ?ok1001 (by rfl) ?env1001 (by repeat (first | exact Env.le_rfl | refine Env.le_push rfl ?_))
   case mu1 => omega
   case ok1001 => exact hb1
   case env1001 => exact (Env.le_consE rfl (by first | rfl | (congr 1; done)) Env.le_nil)
  ·try simp only [B] at hb1
   refine wp_exit <| then_x <| then_x <| block_hit <| then_n <| wp_seq <| St.region <| hs.o (ok_fieldP fd70_10 rfl .tt) fun hs => hs.o (ok_load1 ty68 .tt) fun hs => ?_
   change St _ _ [Own.box b3 65 [depsAV ((q.got.take k).foldl joinStep q.ctx)]] _ _ _ at hs
   rw [List.take_of_length_le (by omega)] at hs
   obtain ⟨I, hs, hf⟩ := hs.freezeBox 0 rfl
   have hs := hs.upd (t := 3) rfl hf; clear hf
   refine hs.o (ok_makeFunc (args_cons .tt args_nil)) fun hs => ?_
   refine hs.o (ok_call (c_slices_ContainsFunc_impl_Answer_impl_Answer q.got (stale q) _ (fun v _ => Fn.val (c_impl_Call_current_1 v (newestD q)))) (args_cons .r (args_cons .tt args_nil))) fun hs => ?_
   refine hs.o (ok_not .tt) fun hs => hs.s fun hs => wpList_nil <| then_n <| wp_ret <| hs.ret rfl (.cons (.t rfl) ResL.nil) ?_
   rfl

theorem c_slices_Equal_impl_Dep_impl_Dep (x y : List Dep) :
    Fn Tryz.prog 49 [depsAV x, depsAV y] (AV.bool (depsSame x y)) := by
 refine Fn.intro 26 Tryz.func49 rfl Tryz.ntmps49 rfl (by kernel_rfl) (fun W I a hs => ?_)
 have hlx := hs.lenleM (t := 0) rfl
 have hly := hs.lenleM (t := 1) rfl
 refine wp_seq <| St.region <| hs.sc fun hs => wpList_nil <| then_n <| wp_seq <| wp_seq <| St.region <| hs.m fun hs => ?_
 refine hs.o ((by first | exact ok_lenM un65 .tt | exact ok_len un65 .tt | exact ok_lenV un65 .tt)) fun hs => ?_
 refine hs.m fun hs => ?_
 refine hs.o ((by first | exact ok_lenM un65 .tt | exact ok_len un65 .tt | exact ok_lenV un65 .tt)) fun hs => ?_
 refine hs.o (ok_nei .tt .tt) fun hs => wpList_nil <| then_n ?_
 refine hs.cond .tt (fun hb1 => ?_) (fun hb1 => ?_)
 ·try simp only [B] at hb1
  refine wp_seq <| St.region <| hs.sc fun hs => wpList_nil <| then_n <| wp_ret <| then_r <| hs.ret rfl (.cons (.t rfl) ResL.nil) ?_
  exact ret_bool (depsSame_len hb1).symm
 ·try simp only [B] at hb1
  refine wp_skip <| then_n <| wp_seq <| wp_seq <| St.region <| hs.m fun hs => ?_
  refine hs.o ((by first | exact ok_lenM un65 .tt | exact ok_len un65 .tt | exact ok_lenV un65 .tt)) fun hs => ?_
  refine hs.mc fun hs => wpList_nil <| then_n <| wp_block ?_
  refine St.loopS (σ := Nat) (4 :: 5 :: 13 :: 14 :: 15 :: 16 :: 17 :: 18 :: 19 :: 20 :: 21 :: 22 :: 23 :: 24 :: 25 :: []) ⟨fun k => [(13, AV.int k)], fun k => [], fun k => k ≤ x.length ∧ ∀ i, i < k → (fun i => decide (elt x i = elt y i)) i = true⟩ (fun k => x.length - k) 0 hs rfl ?ok1 ?env1 ?round1
  case ok1 => exact ⟨Nat.zero_le _, fun i hi => by omega⟩
  case env1 => exact (Env.le_consE rfl (by rfl) Env.le_nil)
  case round1 =>
   rintro k I a w hok hs
   obtain ⟨hk_k, hall⟩ := hok
   refine wp_seq <| St.region <| hs.o (ok_lss .tt .tt) fun hs => wpList_nil <| then_n <| wp_seq ?_
   refine hs.cond .tt (fun hb2 => ?_) (fun hb2 => ?_)
   ·try simp only [B] at hb2
    refine wp_skip <| then_n <| wp_seq <| wp_block <| wp_seq <| St.region <| hs.m fun hs => hs.s fun hs => wpList_nil <| then_n <| wp_seq <| hs.dk <| .o (ok_move .tt) <| .o (ok_move .tt) ?_
    refine .o ((by first | exact ok_idxN un65 ty74 .tt .tt (fun _ => by exact hb2) | exact ok_idxM un65 ty74 .tt .tt (fun _ => by exact hb2) | exact ok_idx un65 ty74 .tt .tt (fun _ => by exact hb2))) ?_
    refine .o ((by first | exact ok_loadA ty74 .tt rfl | exact ok_loadS ty74 .tt rfl)) ?_
    refine .o (ok_move .tt) <| .o (ok_move .tt) ?_
    refine .o ((by first | exact ok_idxN un65 ty74 .tt .tt (fun _ => by omega) | exact ok_idxM un65 ty74 .tt .tt (fun _ => by omega) | exact ok_idx un65 ty74 .tt .tt (fun _ => by omega))) ?_
    refine .o ((by first | exact ok_loadA ty74 .tt rfl | exact ok_loadS ty74 .tt rfl)) ?_
    refine .o (ok_neS [_, _, _] [_, _, _] eqt74 rfl rfl .tt .tt) <| RunK.nil ?_
    intro I a w hs
    refine then_n ?_
    refine hs.cond .tt (fun hb3 => ?_) (fun hb3 => ?_)
    ·rw [deps_neq] at hb3; replace hb3 := nt hb3
     refine wp_seq <| St.region <| hs.sc fun hs => wpList_nil <| then_n <| wp_ret <| block_r <| then_r <| then_r <| block_r <| then_r <| hs.ret rfl (.cons (.t rfl) ResL.nil) ?_
     exact ret_bool (depsSame_elt hb3).symm
    ·rw [deps_neq] at hb3; replace hb3 := nf hb3
     refine wp_skip <| block_n <| then_n <| St.region ?_
     refine hs.o (ok_add .tt .c (fun _ => by omega)) fun hs => ?_
     refine hs.m fun hs => wpList_nil <| then_n ?_
     refine hs.again (k + 1) ?mu1 ?ok1001 (by rfl) ?env1001 (by repeat (first | exact Env.le_rfl | refine Env.le_push rfl ?_))
     case mu1 => omega
     case ok1001 => exact ⟨by omega, allN_next hall hb3⟩
     case env1001 => exact (Env.le_consE rfl (by first | rfl | (congr 1; done)) Env.le_nil)
   ·try simp only [B] at hb2
    refine wp_exit <| then_x <| then_x <| block_hit <| then_n <| wp_seq <| St.region <| hs.sc fun hs => wpList_nil <| then_n <| wp_ret <| hs.ret rfl (.cons (.t rfl) ResL.nil) ?_
    exact ret_bool (depsSame_all hb1 fun i hi => hall i (by omega)).symm

end Go.Proofs.YtlppgilifnkapaaGreat
