/- Walks: dependency lists joined. -/
import Derived.Test.YtlppgilifnkapaaGreatCallM
import Derived.Test.YtlppgilifnkapaaGreatDraw3
set_option linter.unusedVariables false
set_option linter.unusedSimpArgs false
set_option maxRecDepth 100000
namespace Go.Proofs.YtlppgilifnkapaaGreat
open Go Go.RowKit


theorem snocD {α : Type} {f : α → List AV} (l : List α) (x : α) : l.map f ++ [f x] = (l ++ [x]).map f := by simp

theorem c_impl_cloneDeps (l : List Dep) (h : l.length ≤ 1048576) :
    Fn Tryz.prog 123 [depsAV l] (depsAV l) := by
 refine Fn.intro 5 Tryz.func123 rfl Tryz.ntmps123 rfl (by kernel_rfl) (fun W I a hs => ?_)
 refine wp_seq <| St.region <| hs.sc fun hs => wpList_nil <| then_n <| wp_seq <| St.region <| hs.m fun hs => ?_
 have hs := hs.ownNil (sz := 3) 74
 refine hs.append 0 rfl un65 ty74 rfl .c .r rfl (by simp; omega) fun v4 a w hs => ?_
 obtain ⟨I, hs, hf⟩ := hs.freezeRow 0 rfl
 have hs := hs.upd (t := 4) rfl hf; clear hf
 refine hs.s fun hs => wpList_nil <| then_n <| wp_ret ?_
 refine hs.ret rfl (.cons (by first | exact .t rfl | exact .nil rfl) ResL.nil) ?_
 rfl

theorem c_impl_put (l : List Dep) (d : Dep) (hl : depsOk l = true) :
    Fn Tryz.prog 124 [depsAV l, d.av] (depsAV (putD l d)) := by
 refine Fn.intro 53 Tryz.func124 rfl Tryz.ntmps124 rfl (by kernel_rfl) (fun W I a hs => ?_)
 have hl6 := depsOk_len6 hl
 have hs := hs.ownNil (sz := 3) 74
 refine wp_seq <| St.region <| hs.o (ok_boxP .tt) fun hs => hs.sc fun hs => wpList_nil <| then_n <| wp_seq <| St.region <| hs.sc fun hs => wpList_nil <| then_n <| wp_seq <| St.region <| hs.sc fun hs => wpList_nil <| then_n <| wp_seq <| wp_seq <| St.region <| hs.m fun hs => ?_
 refine hs.o ((by first | exact ok_lenM un65 .tt | exact ok_len un65 .tt | exact ok_lenV un65 .tt)) fun hs => ?_
 refine hs.mc fun hs => wpList_nil <| then_n <| wp_block ?_
 refine St.loopS (σ := Nat × Bool × List Dep × Value) (5 :: 6 :: 8 :: 11 :: 12 :: 13 :: 14 :: 15 :: 16 :: 17 :: 18 :: 19 :: 20 :: 21 :: 22 :: 23 :: 24 :: 25 :: 26 :: 27 :: 28 :: 29 :: 30 :: 31 :: 32 :: 33 :: 34 :: 35 :: 36 :: 37 :: 38 :: 39 :: 40 :: 41 :: 42 :: 43 :: 44 :: 45 :: []) ⟨fun ⟨k, done, out, v⟩ => [(11, AV.int k), (6, AV.bool done), (5, AV.val v)], fun ⟨k, done, out, v⟩ => [Own.row v 74 3 (out.map Dep.cells)], fun ⟨k, done, out, v⟩ => PutAt l d k done out⟩ (fun ⟨k, done, out, v⟩ => l.length - k) (0, false, [], .slice none 0 0) hs rfl ?ok1 ?env1 ?round1
 case ok1 => exact PutAt.zero l d
 case env1 => exact (Env.le_consE rfl (by rfl) (Env.le_consE rfl (by rfl) (Env.le_consE rfl (by rfl) Env.le_nil)))
 case round1 =>
  rintro ⟨k, done, out, v⟩ I a w hok hs
  have hp : PutAt l d k done out := hok
  have hk := hp.hk
  have hol := hp.len
  have hdn : done.toNat ≤ 1 := by cases done <;> simp
  change St _ _ [Own.row v 74 3 (out.map Dep.cells)] _ _ _ at hs
  refine wp_seq <| St.region <| hs.o (ok_lss .tt .tt) fun hs => wpList_nil <| then_n <| wp_seq ?_
  refine hs.cond .tt (fun hb1 => ?_) (fun hb1 => ?_)
  ·try simp only [B] at hb1
   refine wp_skip <| then_n <| wp_seq <| wp_block <| wp_seq <| St.region ?_
   refine hs.o ((by first | exact ok_idxN un65 ty74 .tt .tt (fun _ => by exact hb1) | exact ok_idxM un65 ty74 .tt .tt (fun _ => by exact hb1) | exact ok_idx un65 ty74 .tt .tt (fun _ => by exact hb1))) fun hs => ?_
   refine hs.o ((by first | exact ok_loadA ty74 .tt rfl | exact ok_loadS ty74 .tt rfl)) fun hs => ?_
   refine hs.alloc rfl ty74 zc74 fun b8 I a w hs => ?_
   refine hs.storeB 1 ty74 .tt .tt rfl (by first | rfl | assumption) rfl fun a w hs => ?_
   refine wpList_nil <| then_n <| wp_seq <| wp_block <| wp_seq <| St.region <| hs.o (ok_fieldV fd74_0 rfl .tt) fun hs => hs.o (ok_loadB 1 ty3 .tt rfl rfl) fun hs => hs.o (ok_fieldP fd74_0 rfl .tt) fun hs => hs.o (ok_load1 ty3 .tt) fun hs => hs.o (ok_eqi .tt .tt) fun hs => hs.s fun hs => wpList_nil <| then_n ?_
   refine hs.cond .tt (fun hb2 => ?_) (fun hb2 => ?_)
   ·try simp only [B] at hb2
    refine wp_seq <| wp_seq <| St.region <| hs.o (ok_fieldV fd74_1 rfl .tt) fun hs => hs.o (ok_loadBS 1 ty67 .tt rfl rfl rfl) fun hs => hs.o (ok_fieldP fd74_1 rfl .tt) fun hs => ?_
    refine hs.o ((by first | exact ok_loadA ty67 .tt rfl | exact ok_loadS ty67 .tt rfl)) fun hs => ?_
    refine hs.o (ok_call (c_impl_StampLess ..) (args_cons .tt (args_cons .tt args_nil))) fun hs => wpList_nil <| then_n ?_
    refine hs.cond .tt (fun hb3 => ?_) (fun hb3 => ?_)
    ·try simp only [B] at hb3
     refine St.region ?_
     refine hs.o ((by first | exact ok_loadA ty74 .tt rfl | exact ok_loadS ty74 .tt rfl)) fun hs => ?_
     refine hs.storeB 1 ty74 .tt .tt rfl (by first | rfl | assumption) rfl fun a w hs => ?_
     refine wpList_nil <| then_n <| St.region <| hs.sc fun hs => wpList_nil <| block_n <| then_n <| St.region <| hs.m fun hs => hs.o (ok_loadBS 1 ty74 .tt rfl rfl rfl) fun hs => ?_
     refine hs.o (ok_lit (lxs := [d.cells]) un65 ty74 rfl zo74 rfl rfl (Parts.s rfl rfl rfl .tt Parts.nil) rfl rfl (by first | (simp; done) | (simp only [List.forall_mem_cons]; exact ⟨rfl, fun _ h => by simp at h⟩))) fun hs => ?_
     refine hs.append 0 rfl un65 ty74 rfl .tt .r rfl (by simp; omega) fun v44 a w hs => ?_
     rw [snocD] at hs
     refine hs.s fun hs => wpList_nil <| block_n <| then_n <| St.region ?_
     refine hs.o (ok_add .tt .c (fun _ => by omega)) fun hs => ?_
     refine hs.m fun hs => wpList_nil <| then_n ?_
     have hs := hs.drop 1
     refine hs.again (k + 1, true, out ++ [d], v44) ?mu1 ?ok1001 (by rfl) ?env1001 (by repeat (first | exact Env.le_rfl | refine Env.le_push rfl ?_))
     case mu1 => simp; omega
     case ok1001 => have h := (hp.same hl hb1 hb2).2; rw [hb3, if_pos rfl] at h; exact h
     case env1001 => exact (Env.le_consE rfl (by first | rfl | (congr 1; done)) (Env.le_consE rfl (by first | rfl | (congr 1; done)) (Env.le_consE rfl (by first | rfl | (congr 1; done)) Env.le_nil)))
    ·try simp only [B] at hb3
     refine wp_skip <| then_n <| St.region <| hs.sc fun hs => wpList_nil <| block_n <| then_n <| St.region <| hs.m fun hs => hs.o (ok_loadBS 1 ty74 .tt rfl rfl rfl) fun hs => ?_
     refine hs.o (ok_lit (lxs := [(elt l k).cells]) un65 ty74 rfl zo74 rfl rfl (Parts.s rfl rfl rfl .tt Parts.nil) rfl rfl (by first | (simp; done) | (simp only [List.forall_mem_cons]; exact ⟨rfl, fun _ h => by simp at h⟩))) fun hs => ?_
     refine hs.append 0 rfl un65 ty74 rfl .tt .r rfl (by simp; omega) fun v44 a w hs => ?_
     rw [snocD] at hs
     refine hs.s fun hs => wpList_nil <| block_n <| then_n <| St.region ?_
     refine hs.o (ok_add .tt .c (fun _ => by omega)) fun hs => ?_
     refine hs.m fun hs => wpList_nil <| then_n ?_
     have hs := hs.drop 1
     refine hs.again (k + 1, true, out ++ [elt l k], v44) ?mu2 ?ok1002 (by rfl) ?env1002 (by repeat (first | exact Env.le_rfl | refine Env.le_push rfl ?_))
     case mu2 => simp; omega
     case ok1002 => have h := (hp.same hl hb1 hb2).2; rw [hb3] at h; exact h
     case env1002 => exact (Env.le_consE rfl (by first | rfl | (congr 1; done)) (Env.le_consE rfl (by first | rfl | (congr 1; done)) (Env.le_consE rfl (by first | rfl | (congr 1; done)) Env.le_nil)))
   ·try simp only [B] at hb2
    refine wp_seq <| St.region <| hs.o (ok_fieldV fd74_0 rfl .tt) fun hs => hs.o (ok_loadB 1 ty3 .tt rfl rfl) fun hs => hs.o (ok_fieldP fd74_0 rfl .tt) fun hs => hs.o (ok_load1 ty3 .tt) fun hs => hs.o (ok_gtr .tt .tt) fun hs => hs.m fun hs => hs.q .T (ok_move .tt) fun hs => hs.q .T (ok_not .ag) fun hs => ?_
    refine hs.o (ok_and .tt .pc .c) fun hs => hs.s fun hs => wpList_nil <| then_n ?_
    refine hs.cond .tt (fun hb4 => ?_) (fun hb4 => ?_)
    ·try simp only [B] at hb4
     refine wp_seq <| St.region <| hs.m fun hs => ?_
     refine hs.o ((by first | exact ok_loadA ty74 .tt rfl | exact ok_loadS ty74 .tt rfl)) fun hs => ?_
     refine hs.o (ok_lit (lxs := [d.cells]) un65 ty74 rfl zo74 rfl rfl (Parts.s rfl rfl rfl .tt Parts.nil) rfl rfl (by first | (simp; done) | (simp only [List.forall_mem_cons]; exact ⟨rfl, fun _ h => by simp at h⟩))) fun hs => ?_
     refine hs.append 0 rfl un65 ty74 rfl .tt .r rfl (by simp; omega) fun v40 a w hs => ?_
     rw [snocD] at hs
     refine hs.s fun hs => wpList_nil <| then_n <| St.region <| hs.sc fun hs => wpList_nil <| block_n <| then_n <| St.region <| hs.m fun hs => hs.o (ok_loadBS 1 ty74 .tt rfl rfl rfl) fun hs => ?_
     refine hs.o (ok_lit (lxs := [(elt l k).cells]) un65 ty74 rfl zo74 rfl rfl (Parts.s rfl rfl rfl .tt Parts.nil) rfl rfl (by first | (simp; done) | (simp only [List.forall_mem_cons]; exact ⟨rfl, fun _ h => by simp at h⟩))) fun hs => ?_
     refine hs.append 0 rfl un65 ty74 rfl .tt .r rfl (by simp; omega) fun v44 a w hs => ?_
     rw [snocD] at hs
     refine hs.s fun hs => wpList_nil <| block_n <| then_n <| St.region ?_
     refine hs.o (ok_add .tt .c (fun _ => by omega)) fun hs => ?_
     refine hs.m fun hs => wpList_nil <| then_n ?_
     have hs := hs.drop 1
     refine hs.again (k + 1, true, (out ++ [d]) ++ [elt l k], v44) ?mu3 ?ok1003 (by rfl) ?env1003 (by repeat (first | exact Env.le_rfl | refine Env.le_push rfl ?_))
     case mu3 => simp; omega
     case ok1003 => obtain ⟨h1, h2⟩ := hb4; subst h2; exact hp.before hl hb1 h1
     case env1003 => exact (Env.le_consE rfl (by first | rfl | (congr 1; done)) (Env.le_consE rfl (by first | rfl | (congr 1; done)) (Env.le_consE rfl (by first | rfl | (congr 1; done)) Env.le_nil)))
    ·try simp only [B] at hb4
     refine wp_skip <| block_n <| then_n <| St.region <| hs.m fun hs => hs.o (ok_loadBS 1 ty74 .tt rfl rfl rfl) fun hs => ?_
     refine hs.o (ok_lit (lxs := [(elt l k).cells]) un65 ty74 rfl zo74 rfl rfl (Parts.s rfl rfl rfl .tt Parts.nil) rfl rfl (by first | (simp; done) | (simp only [List.forall_mem_cons]; exact ⟨rfl, fun _ h => by simp at h⟩))) fun hs => ?_
     refine hs.append 0 rfl un65 ty74 rfl .tt .r rfl (by simp; omega) fun v44 a w hs => ?_
     rw [snocD] at hs
     refine hs.s fun hs => wpList_nil <| block_n <| then_n <| St.region ?_
     refine hs.o (ok_add .tt .c (fun _ => by omega)) fun hs => ?_
     refine hs.m fun hs => wpList_nil <| then_n ?_
     have hs := hs.drop 1
     refine hs.again (k + 1, done, out ++ [elt l k], v44) ?mu4 ?ok1004 (by rfl) ?env1004 (by repeat (first | exact Env.le_rfl | refine Env.le_push rfl ?_))
     case mu4 => simp; omega
     case ok1004 => exact hp.step hb1 hb2 fun hd => by rcases hb4 with h | h; exact h; rw [hd] at h; cases h
     case env1004 => exact (Env.le_consE rfl (by first | rfl | (congr 1; done)) (Env.le_consE rfl (by first | rfl | (congr 1; done)) (Env.le_consE rfl (by first | rfl | (congr 1; done)) Env.le_nil)))
  ·try simp only [B] at hb1
   refine wp_exit <| then_x <| then_x <| block_hit <| then_n <| wp_seq <| wp_seq <| St.region <| hs.m fun hs => hs.o (ok_not .tt) fun hs => wpList_nil <| then_n ?_
   refine hs.cond .tt (fun hb5 => ?_) (fun hb5 => ?_)
   ·try simp only [B] at hb5
    refine St.region <| hs.m fun hs => ?_
    refine hs.o ((by first | exact ok_loadA ty74 .tt rfl | exact ok_loadS ty74 .tt rfl)) fun hs => ?_
    refine hs.o (ok_lit (lxs := [d.cells]) un65 ty74 rfl zo74 rfl rfl (Parts.s rfl rfl rfl .tt Parts.nil) rfl rfl (by first | (simp; done) | (simp only [List.forall_mem_cons]; exact ⟨rfl, fun _ h => by simp at h⟩))) fun hs => ?_
    refine hs.append 0 rfl un65 ty74 rfl .tt .r rfl (by simp; omega) fun v51 a w hs => ?_
    rw [snocD] at hs
    refine hs.s fun hs => wpList_nil <| then_n <| wp_seq <| St.region <| hs.m fun hs => hs.s fun hs => wpList_nil <| then_n <| wp_ret ?_
    obtain ⟨I, hs, hf⟩ := hs.freezeRow 0 rfl
    have hs := hs.upd (t := 4) rfl hf; clear hf
    refine hs.ret rfl (.cons (by first | exact .t rfl | exact .nil rfl) ResL.nil) ?_
    exact congrArg (AV.rows 3) (by subst hb5; exact hp.endF (by omega) ▸ rfl)
   ·try simp only [B] at hb5
    refine wp_skip <| then_n <| wp_seq <| St.region <| hs.m fun hs => hs.s fun hs => wpList_nil <| then_n <| wp_ret ?_
    obtain ⟨I, hs, hf⟩ := hs.freezeRow 0 rfl
    have hs := hs.upd (t := 4) rfl hf; clear hf
    refine hs.ret rfl (.cons (by first | exact .t rfl | exact .nil rfl) ResL.nil) ?_
    exact congrArg (AV.rows 3) (by subst hb5; rw [hp.endT (by omega)])

theorem c_impl_join (x y : List Dep) (hx : depsOk x = true) (hy : depsOk y = true) :
    Fn Tryz.prog 117 [depsAV x, depsAV y] (depsAV (joinD x y)) := by
 refine Fn.intro 21 Tryz.func117 rfl Tryz.ntmps117 rfl (by kernel_rfl) (fun W I a hs => ?_)
 have hl6 := depsOk_len6 hx
 have hl6y := depsOk_len6 hy
 refine wp_seq <| St.region <| hs.sc fun hs => wpList_nil <| then_n <| wp_seq <| St.region <| hs.m fun hs => ?_
 refine hs.o (ok_call (c_impl_cloneDeps x (by omega)) (args_cons .r args_nil)) fun hs => ?_
 refine hs.s fun hs => wpList_nil <| then_n <| wp_seq <| wp_seq <| St.region <| hs.m fun hs => ?_
 refine hs.o ((by first | exact ok_lenM un65 .tt | exact ok_len un65 .tt | exact ok_lenV un65 .tt)) fun hs => ?_
 refine hs.mc fun hs => wpList_nil <| then_n <| wp_block ?_
 refine St.loopS (σ := Nat) (5 :: 7 :: 12 :: 13 :: 14 :: 15 :: 16 :: 17 :: 18 :: 19 :: []) ⟨fun k => [(12, AV.int k), (5, depsAV (joinD x (y.take k)))], fun k => [], fun k => k ≤ y.length⟩ (fun k => y.length - k) 0 hs rfl ?ok1 ?env1 ?round1
 case ok1 => exact Nat.zero_le _
 case env1 => exact (Env.le_consE rfl (by rfl) (Env.le_consE rfl (by rfl) Env.le_nil))
 case round1 =>
  rintro k I a w hok hs
  have hk : k ≤ y.length := hok
  refine wp_seq <| St.region <| hs.o (ok_lss .tt .tt) fun hs => wpList_nil <| then_n <| wp_seq ?_
  refine hs.cond .tt (fun hb1 => ?_) (fun hb1 => ?_)
  ·try simp only [B] at hb1
   refine wp_skip <| then_n <| wp_seq <| wp_block <| wp_seq <| St.region ?_
   refine hs.o ((by first | exact ok_idxN un65 ty74 .tt .tt (fun _ => by exact hb1) | exact ok_idxM un65 ty74 .tt .tt (fun _ => by exact hb1) | exact ok_idx un65 ty74 .tt .tt (fun _ => by exact hb1))) fun hs => ?_
   refine hs.o ((by first | exact ok_loadA ty74 .tt rfl | exact ok_loadS ty74 .tt rfl)) fun hs => ?_
   refine hs.alloc rfl ty74 zc74 fun b7 I a w hs => ?_
   refine hs.storeB 0 ty74 .tt .tt rfl (by first | rfl | assumption) rfl fun a w hs => ?_
   obtain ⟨I, hs, hf⟩ := hs.freezeBox 0 rfl
   have hs := hs.upd (t := 7) rfl hf; clear hf
   refine wpList_nil <| then_n <| St.region <| hs.m fun hs => ?_
   refine hs.o ((by first | exact ok_loadA ty74 .tt rfl | exact ok_loadS ty74 .tt rfl)) fun hs => ?_
   refine hs.o (ok_call (c_impl_put _ _ (depsOk_join_take hx hy k)) (args_cons .r (args_cons .tt args_nil))) fun hs => ?_
   refine hs.s fun hs => wpList_nil <| block_n <| then_n <| St.region ?_
   refine hs.o (ok_add .tt .c (fun _ => by omega)) fun hs => ?_
   refine hs.m fun hs => wpList_nil <| then_n ?_
   have hs := hs.drop 0
   refine hs.again (k + 1) ?mu1 ?ok1001 (by rfl) ?env1001 (by repeat (first | exact Env.le_rfl | refine Env.le_push rfl ?_))
   case mu1 => omega
   case ok1001 => exact hb1
   case env1001 => exact (Env.le_consE rfl (by rfl) (Env.le_consE rfl (by exact congrArg depsAV (by rw [joinD_take hb1])) Env.le_nil))
  ·try simp only [B] at hb1
   refine wp_exit <| then_x <| then_x <| block_hit <| then_n <| wp_seq <| St.region <| hs.m fun hs => hs.s fun hs => wpList_nil <| then_n <| wp_ret ?_
   refine hs.ret rfl (.cons (by first | exact .t rfl | exact .nil rfl) ResL.nil) ?_
   exact congrArg depsAV (by rw [List.take_of_length_le (by omega)])

theorem c_impl_at (l : List Dep) (key : Int) :
    Fn Tryz.prog 120 [depsAV l, AV.int key] ((atD l key).av) := by
 refine Fn.intro 21 Tryz.func120 rfl Tryz.ntmps120 rfl (by kernel_rfl) (fun W I a hs => ?_)
 have hle := hs.lenleM (t := 0) rfl
 refine wp_seq <| St.region <| hs.alloc rfl ty67 zc67 fun b4 I a w hs => wpList_nil <| then_n <| wp_seq <| wp_seq <| St.region <| hs.m fun hs => ?_
 refine hs.o ((by first | exact ok_lenM un65 .tt | exact ok_len un65 .tt | exact ok_lenV un65 .tt)) fun hs => ?_
 refine hs.mc fun hs => wpList_nil <| then_n <| wp_block ?_
 refine St.loopS (σ := Nat) (6 :: 9 :: 10 :: 11 :: 12 :: 13 :: 14 :: 15 :: 16 :: 17 :: 18 :: 19 :: []) ⟨fun k => [(9, AV.int k)], fun k => [Own.box b4 67 [AV.val (.int .i64 0), AV.val (.int .i64 0)]], fun k => k ≤ l.length ∧ ∀ i, i < k → depIsKey key (elt l i) = false⟩ (fun k => l.length - k) 0 hs rfl ?ok1 ?env1 ?round1
 case ok1 => exact ⟨Nat.zero_le _, fun i hi => by omega⟩
 case env1 => exact (Env.le_consE rfl (by rfl) Env.le_nil)
 case round1 =>
  rintro k I a w hok hs
  obtain ⟨hk, hall⟩ := hok
  refine wp_seq <| St.region <| hs.o (ok_lss .tt .tt) fun hs => wpList_nil <| then_n <| wp_seq ?_
  refine hs.cond .tt (fun hb1 => ?_) (fun hb1 => ?_)
  ·try simp only [B] at hb1
   refine wp_skip <| then_n <| wp_seq <| wp_block <| wp_seq <| St.region ?_
   refine hs.o ((by first | exact ok_idxN un65 ty74 .tt .tt (fun _ => by exact hb1) | exact ok_idxM un65 ty74 .tt .tt (fun _ => by exact hb1) | exact ok_idx un65 ty74 .tt .tt (fun _ => by exact hb1))) fun hs => ?_
   refine hs.o ((by first | exact ok_loadA ty74 .tt rfl | exact ok_loadS ty74 .tt rfl)) fun hs => ?_
   refine hs.alloc rfl ty74 zc74 fun b6 I a w hs => ?_
   refine hs.storeB 1 ty74 .tt .tt rfl (by first | rfl | assumption) rfl fun a w hs => ?_
   obtain ⟨I, hs, hf⟩ := hs.freezeBox 1 rfl
   have hs := hs.upd (t := 6) rfl hf; clear hf
   refine wpList_nil <| then_n <| wp_seq <| St.region <| hs.o (ok_fieldP fd74_0 rfl .tt) fun hs => hs.o (ok_load1 ty3 .tt) fun hs => hs.m fun hs => hs.o (ok_eqi .tt .tt) fun hs => wpList_nil <| then_n ?_
   refine hs.cond .tt (fun hb2 => ?_) (fun hb2 => ?_)
   ·skip
    refine wp_seq <| St.region <| hs.o (ok_fieldP fd74_1 rfl .tt) fun hs => ?_
    refine hs.o ((by first | exact ok_loadA ty67 .tt rfl | exact ok_loadS ty67 .tt rfl)) fun hs => ?_
    refine hs.storeB 0 ty67 .tt .tt rfl (by first | rfl | assumption) rfl fun a w hs => ?_
    refine wpList_nil <| then_n <| wp_ret <| block_r <| then_r <| then_r <| block_r <| then_r ?_
    refine hs.ret rfl (.cons (.s 0 ty67 rfl rfl (by first | rfl | assumption)) ResL.nil) ?_
    exact (by rw [find_hit hb1 hall hb2]; rfl)
   ·skip
    refine wp_skip <| block_n <| then_n <| St.region ?_
    refine hs.o (ok_add .tt .c (fun _ => by omega)) fun hs => ?_
    refine hs.m fun hs => wpList_nil <| then_n ?_
    have hs := hs.drop 1
    refine hs.again (k + 1) ?mu1 ?ok1001 (by rfl) ?env1001 (by repeat (first | exact Env.le_rfl | refine Env.le_push rfl ?_))
    case mu1 => omega
    case ok1001 => exact ⟨hb1, fun i h1 => by rcases Nat.lt_succ_iff_lt_or_eq.1 h1 with h | h; exact hall i h; rw [h]; exact hb2⟩
    case env1001 => exact (Env.le_consE rfl (by first | rfl | (congr 1; done)) Env.le_nil)
  ·try simp only [B] at hb1
   refine wp_exit <| then_x <| then_x <| block_hit <| then_n <| wp_seq <| St.region <| hs.o (ok_build (l0 := [AV.val (.int .i64 0), AV.val (.int .i64 0)]) ty67 fk67 zc67 rfl Parts.nil) fun hs => ?_
   refine hs.storeB 0 ty67 .tt .tt rfl (by first | rfl | assumption) rfl fun a w hs => ?_
   refine wpList_nil <| then_n <| wp_ret ?_
   refine hs.ret rfl (.cons (.s 0 ty67 rfl rfl (by first | rfl | assumption)) ResL.nil) ?_
   exact (by rw [find_none (by omega) hall]; rfl)

theorem c_spec_DepsAt (l : List Dep) (key : Int) (hl : depsOk l = true) :
    Fn Tryz.prog 101 [depsAV l, AV.int key] ((atD l key).av) := by
 refine Fn.intro 29 Tryz.func101 rfl Tryz.ntmps101 rfl (by kernel_rfl) (fun W I a hs => ?_)
 have hle := hs.lenleM (t := 0) rfl
 refine wp_seq <| St.region <| hs.alloc rfl ty67 zc67 fun b4 I a w hs => wpList_nil <| then_n <| wp_seq <| wp_seq <| St.region <| hs.m fun hs => ?_
 refine hs.o (ok_call (c_spec_DepsOk ..) (args_cons .r args_nil)) fun hs => ?_
 refine hs.o (ok_not .tt) fun hs => wpList_nil <| then_n ?_
 refine hs.cond .tt (fun hb1 => ?_) (fun hb1 => ?_)
 ·exfalso; rw [hl] at hb1; cases hb1
  skip
 ·skip
  refine wp_skip <| then_n <| wp_seq <| wp_seq <| St.region <| hs.sc fun hs => wpList_nil <| then_n <| wp_block ?_
  refine St.loopS (σ := Nat) (5 :: 10 :: 11 :: 12 :: 13 :: 14 :: 15 :: 16 :: 17 :: 18 :: 19 :: 20 :: 21 :: 22 :: 23 :: 24 :: 25 :: 26 :: 27 :: []) ⟨fun k => [(5, AV.int k)], fun k => [Own.box b4 67 [AV.val (.int .i64 0), AV.val (.int .i64 0)]], fun k => k ≤ l.length ∧ ∀ i, i < k → depIsKey key (elt l i) = false⟩ (fun k => l.length - k) 0 hs rfl ?ok1 ?env1 ?round1
  case ok1 => exact ⟨Nat.zero_le _, fun i hi => by omega⟩
  case env1 => exact (Env.le_consE rfl (by rfl) Env.le_nil)
  case round1 =>
   rintro k I a w hok hs
   obtain ⟨hk, hall⟩ := hok
   refine wp_seq <| wp_seq <| St.region <| hs.m fun hs => hs.m fun hs => ?_
   refine hs.o ((by first | exact ok_lenM un65 .tt | exact ok_len un65 .tt | exact ok_lenV un65 .tt)) fun hs => ?_
   refine hs.o (ok_lss .tt .tt) fun hs => wpList_nil <| then_n ?_
   refine hs.cond .tt (fun hb2 => ?_) (fun hb2 => ?_)
   ·try simp only [B] at hb2
    refine wp_skip <| then_n <| wp_seq <| wp_block <| wp_seq <| St.region <| hs.m fun hs => hs.m fun hs => ?_
    refine hs.o ((by first | exact ok_idxN un65 ty74 .tt .tt (fun _ => by exact hb2) | exact ok_idxM un65 ty74 .tt .tt (fun _ => by exact hb2) | exact ok_idx un65 ty74 .tt .tt (fun _ => by exact hb2))) fun hs => ?_
    refine hs.o (ok_fieldP fd74_0 rfl .tt) fun hs => hs.o (ok_load1 ty3 .tt) fun hs => hs.m fun hs => hs.o (ok_eqi .tt .tt) fun hs => wpList_nil <| then_n ?_
    refine hs.cond .tt (fun hb3 => ?_) (fun hb3 => ?_)
    ·skip
     refine wp_seq <| St.region <| hs.m fun hs => hs.m fun hs => ?_
     refine hs.o ((by first | exact ok_idxN un65 ty74 .tt .tt (fun _ => by exact hb2) | exact ok_idxM un65 ty74 .tt .tt (fun _ => by exact hb2) | exact ok_idx un65 ty74 .tt .tt (fun _ => by exact hb2))) fun hs => ?_
     refine hs.o (ok_fieldP fd74_1 rfl .tt) fun hs => ?_
     refine hs.o ((by first | exact ok_loadA ty67 .tt rfl | exact ok_loadS ty67 .tt rfl)) fun hs => ?_
     refine hs.storeB 0 ty67 .tt .tt rfl (by first | rfl | assumption) rfl fun a w hs => ?_
     refine wpList_nil <| then_n <| wp_ret <| block_r <| then_r <| then_r <| block_r <| then_r ?_
     refine hs.ret rfl (.cons (.s 0 ty67 rfl rfl (by first | rfl | assumption)) ResL.nil) ?_
     exact (by rw [find_hit hb2 hall hb3]; rfl)
    ·skip
     refine wp_skip <| block_n <| then_n <| St.region <| hs.m fun hs => ?_
     refine hs.o (ok_add .tt .c (fun _ => by omega)) fun hs => ?_
     refine hs.s fun hs => wpList_nil <| then_n ?_
     refine hs.again (k + 1) ?mu1 ?ok1001 (by rfl) ?env1001 (by repeat (first | exact Env.le_rfl | refine Env.le_push rfl ?_))
     case mu1 => omega
     case ok1001 => exact ⟨hb2, fun i h1 => by rcases Nat.lt_succ_iff_lt_or_eq.1 h1 with h | h; exact hall i h; rw [h]; exact hb3⟩
     case env1001 => exact (Env.le_consE rfl (by first | rfl | (congr 1; done)) Env.le_nil)
   ·try simp only [B] at hb2
    refine wp_exit <| then_x <| then_x <| block_hit <| then_n <| wp_seq <| St.region <| hs.o (ok_build (l0 := [AV.val (.int .i64 0), AV.val (.int .i64 0)]) ty67 fk67 zc67 rfl Parts.nil) fun hs => ?_
    refine hs.storeB 0 ty67 .tt .tt rfl (by first | rfl | assumption) rfl fun a w hs => ?_
    refine wpList_nil <| then_n <| wp_ret ?_
    refine hs.ret rfl (.cons (.s 0 ty67 rfl rfl (by first | rfl | assumption)) ResL.nil) ?_
    exact (by rw [find_none (by omega) hall]; rfl)

set_option maxHeartbeats 4000000 in
theorem c_spec_DepsPut (l : List Dep) (d : Dep) (hl : depsOk l = true) (hd : depOk d = true) :
    Fn Tryz.prog 103 [depsAV l, d.av] (depsAV (putD l d)) := by
 refine Fn.intro 85 Tryz.func103 rfl Tryz.ntmps103 rfl (by kernel_rfl) (fun W I a hs => ?_)
 have hl6 := depsOk_len6 hl
 have hd1 := depOk_one d
 refine wp_seq <| St.region <| hs.box rfl .tt fun b3 I a w hs => hs.sc fun hs => wpList_nil <| then_n <| wp_seq <| wp_seq <| St.region <| hs.m fun hs => ?_
 refine hs.o (ok_call (c_spec_DepsOk ..) (args_cons .r args_nil)) fun hs => ?_
 refine hs.o (ok_not .tt) fun hs => hs.m fun hs => hs.q .F (ok_loadBS 0 ty74 .tt rfl rfl rfl) fun hs => ?_
 refine hs.q .F (ok_lit (lxs := [_]) un65 ty74 rfl zo74 rfl rfl (Parts.s rfl rfl rfl .ag Parts.nil) rfl rfl (by first | (simp; done) | (simp only [List.forall_mem_cons]; exact ⟨rfl, fun _ h => by simp at h⟩))) fun hs => ?_
 refine hs.q .F (ok_call (c_spec_DepsOk [d]) (args_cons .ag args_nil)) fun hs => ?_
 refine hs.q .F (ok_not .ag) fun hs => ?_
 refine hs.o (ok_or .tt .c .pc) fun hs => wpList_nil <| then_n ?_
 refine hs.cond .tt (fun hb1 => ?_) (fun hb1 => ?_)
 ·exfalso; rw [hl, hd1, hd] at hb1; cases hb1
  skip
 ·skip
  refine wp_skip <| then_n <| wp_seq <| St.region ?_
  refine hs.lit0 rfl un65 ty74 (by decide) fun b18 I a w hs => ?_
  refine hs.s fun hs => wpList_nil <| then_n <| wp_seq <| St.region <| hs.sc fun hs => wpList_nil <| then_n <| wp_seq <| wp_seq <| St.region <| hs.sc fun hs => wpList_nil <| then_n <| wp_block ?_
  refine St.loopS (σ := Nat × Bool × List Dep × Value × Dep) (5 :: 6 :: 7 :: 19 :: 20 :: 21 :: 22 :: 23 :: 24 :: 25 :: 26 :: 27 :: 28 :: 29 :: 30 :: 31 :: 32 :: 33 :: 34 :: 35 :: 36 :: 37 :: 38 :: 39 :: 40 :: 41 :: 42 :: 43 :: 44 :: 45 :: 46 :: 47 :: 48 :: 49 :: 50 :: 51 :: 52 :: 53 :: 54 :: 55 :: 56 :: 57 :: 58 :: 59 :: 60 :: 61 :: 62 :: 63 :: 64 :: 65 :: 66 :: 67 :: 68 :: 69 :: 70 :: 71 :: 72 :: 73 :: 74 :: 75 :: 76 :: 77 :: []) ⟨fun ⟨k, done, out, v, e⟩ => [(7, AV.int k), (6, AV.bool done), (5, AV.val v)], fun ⟨k, done, out, v, e⟩ => [Own.box b3 74 e.cells, Own.row v 74 3 (out.map Dep.cells)], fun ⟨k, done, out, v, e⟩ => PutAt l d k done out ∧ e.key = d.key ∧ (done = false → e = d)⟩ (fun ⟨k, done, out, v, e⟩ => l.length - k) (0, false, [], .slice (some ⟨b18, 0, none⟩) 0 0, d) hs rfl ?ok1 ?env1 ?round1
  case ok1 => exact ⟨PutAt.zero l d, rfl, fun _ => rfl⟩
  case env1 => exact (Env.le_consE rfl (by rfl) (Env.le_consE rfl (by rfl) (Env.le_consE rfl (by rfl) Env.le_nil)))
  case round1 =>
   rintro ⟨k, done, out, v, e⟩ I a w hok hs
   obtain ⟨hp, hek, hed⟩ := hok
   have hk := hp.hk
   have hol := hp.len
   have hdn : done.toNat ≤ 1 := by cases done <;> simp
   change St _ _ [Own.box b3 74 e.cells, Own.row v 74 3 (out.map Dep.cells)] _ _ _ at hs
   refine wp_seq <| wp_seq <| St.region <| hs.m fun hs => hs.m fun hs => ?_
   refine hs.o ((by first | exact ok_lenM un65 .tt | exact ok_len un65 .tt | exact ok_lenV un65 .tt)) fun hs => ?_
   refine hs.o (ok_lss .tt .tt) fun hs => wpList_nil <| then_n ?_
   refine hs.cond .tt (fun hb2 => ?_) (fun hb2 => ?_)
   ·try simp only [B] at hb2
    refine wp_skip <| then_n <| wp_seq <| wp_block <| wp_seq <| wp_seq <| hs.dk <| .o (ok_move .tt) <| .o (ok_not .tt) <| .o (ok_move .tt) <| .q .T (ok_move .tt) <| .q .T (ok_move .tt) ?_
    refine .q .T ((by first | exact ok_idxN un65 ty74 .ag .ag (fun hg => by exact hb2) | exact ok_idxM un65 ty74 .ag .ag (fun hg => by exact hb2) | exact ok_idx un65 ty74 .ag .ag (fun hg => by exact hb2))) ?_
    refine .q .T (ok_fieldP fd74_0 rfl .ag) ?_
    refine .q .T (ok_load1 ty3 .ag) ?_
    refine .q .T (ok_fieldV fd74_0 rfl .tt) <| .q .T (ok_loadB 0 ty3 .ag rfl rfl) ?_
    refine .q .T (ok_geq .ag .ag) ?_
    refine .o (ok_and .tt .pc .c) <| RunK.nil ?_
    intro I a w hs
    refine then_n ?_
    refine hs.cond .tt (fun hb3 => ?_) (fun hb3 => ?_)
    ·try simp only [B] at hb3
     refine wp_seq <| wp_seq <| hs.dk <| .o (ok_move .tt) <| .o (ok_move .tt) ?_
     refine .o ((by first | exact ok_idxN un65 ty74 .tt .tt (fun _ => by exact hb2) | exact ok_idxM un65 ty74 .tt .tt (fun _ => by exact hb2) | exact ok_idx un65 ty74 .tt .tt (fun _ => by exact hb2))) ?_
     refine .o (ok_fieldP fd74_0 rfl .tt) <| .o (ok_load1 ty3 .tt) <| .o (ok_fieldV fd74_0 rfl .tt) <| .o (ok_loadB 0 ty3 .tt rfl rfl) <| .o (ok_eqi .tt .tt) <| .o (ok_move .tt) <| .q .T (ok_fieldV fd74_1 rfl .tt) <| .q .T (ok_loadBS 0 ty67 .ag rfl rfl rfl) ?_
     refine .q .T (ok_move .tt) <| .q .T (ok_move .tt) ?_
     refine .q .T ((by first | exact ok_idxN un65 ty74 .ag .ag (fun hg => by omega) | exact ok_idxM un65 ty74 .ag .ag (fun hg => by omega) | exact ok_idx un65 ty74 .ag .ag (fun hg => by omega))) ?_
     refine .q .T (ok_fieldP fd74_1 rfl .ag) ?_
     refine .q .T ((by first | exact ok_loadA ty67 .ag rfl | exact ok_loadS ty67 .ag rfl)) ?_
     refine .q .T (ok_call (c_spec_StampLess ..) (args_cons .ag (args_cons .ag args_nil))) ?_
     refine .o (ok_and .tt .pc .c) <| RunK.nil ?_
     intro I a w hs
     refine then_n ?_
     refine hs.cond .tt (fun hb4 => ?_) (fun hb4 => ?_)
     ·try simp only [B] at hb4
      refine St.region <| hs.m fun hs => hs.m fun hs => ?_
      refine hs.o ((by first | exact ok_idxN un65 ty74 .tt .tt (fun _ => by exact hb2) | exact ok_idxM un65 ty74 .tt .tt (fun _ => by exact hb2) | exact ok_idx un65 ty74 .tt .tt (fun _ => by exact hb2))) fun hs => ?_
      refine hs.o ((by first | exact ok_loadA ty74 .tt rfl | exact ok_loadS ty74 .tt rfl)) fun hs => ?_
      refine hs.storeB 0 ty74 .tt .tt rfl (by first | rfl | assumption) rfl fun a w hs => ?_
      refine wpList_nil <| then_n <| wp_seq <| St.region <| hs.m fun hs => hs.o (ok_loadBS 0 ty74 .tt rfl rfl rfl) fun hs => ?_
      refine hs.o (ok_lit (lxs := [(elt l k).cells]) un65 ty74 rfl zo74 rfl rfl (Parts.s rfl rfl rfl .tt Parts.nil) rfl rfl (by first | (simp; done) | (simp only [List.forall_mem_cons]; exact ⟨rfl, fun _ h => by simp at h⟩))) fun hs => ?_
      refine hs.append 1 rfl un65 ty74 rfl .tt .r rfl (by simp; omega) fun v62 a w hs => ?_
      rw [snocD] at hs
      refine hs.s fun hs => wpList_nil <| then_n <| St.region <| hs.sc fun hs => wpList_nil <| then_n <| wp_seq <| hs.dk <| .o (ok_move .tt) <| .o (ok_move .tt) ?_
      refine .o ((by first | exact ok_idxN un65 ty74 .tt .tt (fun _ => by exact hb2) | exact ok_idxM un65 ty74 .tt .tt (fun _ => by exact hb2) | exact ok_idx un65 ty74 .tt .tt (fun _ => by exact hb2))) ?_
      refine .o (ok_fieldP fd74_0 rfl .tt) <| .o (ok_load1 ty3 .tt) <| .o (ok_fieldV fd74_0 rfl .tt) <| .o (ok_loadB 0 ty3 .tt rfl rfl) <| .o (ok_nei .tt .tt) <| RunK.nil ?_
      intro I a w hs
      refine then_n ?_
      refine hs.cond .tt (fun hb5 => ?_) (fun hb5 => ?_)
      ·exfalso; simp at hb5
       skip
      ·try simp only [B] at hb5
       refine wp_skip <| block_n <| then_n <| St.region <| hs.m fun hs => ?_
       refine hs.o (ok_add .tt .c (fun _ => by omega)) fun hs => ?_
       refine hs.s fun hs => wpList_nil <| then_n ?_
       refine hs.again (k + 1, true, out ++ [elt l k], v62, elt l k) ?mu1 ?ok1001 (by rfl) ?env1001 (by repeat (first | exact Env.le_rfl | refine Env.le_push rfl ?_))
       case mu1 => simp; omega
       case ok1001 => obtain ⟨h1, h2⟩ := hb3; obtain rfl := hed h1; subst h1; have h := (hp.same hl hb2 hb4.1).2; rw [← putD_pick _ _ hb4.1, if_pos hb4.2] at h; exact ⟨h, hb4.1, fun h => by cases h⟩
       case env1001 => exact (Env.le_consE rfl (by first | rfl | (congr 1; done)) (Env.le_consE rfl (by first | rfl | (congr 1; done)) (Env.le_consE rfl (by first | rfl | (congr 1; done)) Env.le_nil)))
     ·try simp only [B] at hb4
      refine wp_skip <| then_n <| wp_seq <| St.region <| hs.m fun hs => hs.o (ok_loadBS 0 ty74 .tt rfl rfl rfl) fun hs => ?_
      refine hs.o (ok_lit (lxs := [e.cells]) un65 ty74 rfl zo74 rfl rfl (Parts.s rfl rfl rfl .tt Parts.nil) rfl rfl (by first | (simp; done) | (simp only [List.forall_mem_cons]; exact ⟨rfl, fun _ h => by simp at h⟩))) fun hs => ?_
      refine hs.append 1 rfl un65 ty74 rfl .tt .r rfl (by simp; omega) fun v62 a w hs => ?_
      rw [snocD] at hs
      refine hs.s fun hs => wpList_nil <| then_n <| St.region <| hs.sc fun hs => wpList_nil <| then_n <| wp_seq <| hs.dk <| .o (ok_move .tt) <| .o (ok_move .tt) ?_
      refine .o ((by first | exact ok_idxN un65 ty74 .tt .tt (fun _ => by exact hb2) | exact ok_idxM un65 ty74 .tt .tt (fun _ => by exact hb2) | exact ok_idx un65 ty74 .tt .tt (fun _ => by exact hb2))) ?_
      refine .o (ok_fieldP fd74_0 rfl .tt) <| .o (ok_load1 ty3 .tt) <| .o (ok_fieldV fd74_0 rfl .tt) <| .o (ok_loadB 0 ty3 .tt rfl rfl) <| .o (ok_nei .tt .tt) <| RunK.nil ?_
      intro I a w hs
      refine then_n ?_
      refine hs.cond .tt (fun hb6 => ?_) (fun hb6 => ?_)
      ·try simp only [B] at hb6
       refine St.region <| hs.m fun hs => hs.m fun hs => hs.m fun hs => ?_
       refine hs.o ((by first | exact ok_idxN un65 ty74 .tt .tt (fun _ => by exact hb2) | exact ok_idxM un65 ty74 .tt .tt (fun _ => by exact hb2) | exact ok_idx un65 ty74 .tt .tt (fun _ => by exact hb2))) fun hs => ?_
       refine hs.o ((by first | exact ok_loadA ty74 .tt rfl | exact ok_loadS ty74 .tt rfl)) fun hs => ?_
       refine hs.o (ok_lit (lxs := [(elt l k).cells]) un65 ty74 rfl zo74 rfl rfl (Parts.s rfl rfl rfl .tt Parts.nil) rfl rfl (by first | (simp; done) | (simp only [List.forall_mem_cons]; exact ⟨rfl, fun _ h => by simp at h⟩))) fun hs => ?_
       refine hs.append 1 rfl un65 ty74 rfl .tt .r rfl (by simp; omega) fun v77 a w hs => ?_
       rw [snocD] at hs
       refine hs.s fun hs => wpList_nil <| block_n <| then_n <| St.region <| hs.m fun hs => ?_
       refine hs.o (ok_add .tt .c (fun _ => by omega)) fun hs => ?_
       refine hs.s fun hs => wpList_nil <| then_n ?_
       refine hs.again (k + 1, true, (out ++ [e]) ++ [elt l k], v77, e) ?mu2 ?ok1002 (by rfl) ?env1002 (by repeat (first | exact Env.le_rfl | refine Env.le_push rfl ?_))
       case mu2 => simp; omega
       case ok1002 => obtain ⟨h1, h2⟩ := hb3; obtain rfl := hed h1; subst h1; exact ⟨hp.before hl hb2 (by omega), rfl, fun h => by cases h⟩
       case env1002 => exact (Env.le_consE rfl (by first | rfl | (congr 1; done)) (Env.le_consE rfl (by first | rfl | (congr 1; done)) (Env.le_consE rfl (by first | rfl | (congr 1; done)) Env.le_nil)))
      ·try simp only [B] at hb6
       refine wp_skip <| block_n <| then_n <| St.region <| hs.m fun hs => ?_
       refine hs.o (ok_add .tt .c (fun _ => by omega)) fun hs => ?_
       refine hs.s fun hs => wpList_nil <| then_n ?_
       refine hs.again (k + 1, true, out ++ [e], v62, e) ?mu3 ?ok1003 (by rfl) ?env1003 (by repeat (first | exact Env.le_rfl | refine Env.le_push rfl ?_))
       case mu3 => simp; omega
       case ok1003 => obtain ⟨h1, h2⟩ := hb3; obtain rfl := hed h1; subst h1; have h := (hp.same hl hb2 hb6).2; rw [← putD_pick _ _ hb6, if_neg (by rcases hb4 with h4 | h4; exact absurd hb6 h4; rw [h4]; simp)] at h; exact ⟨h, rfl, fun h => by cases h⟩
       case env1003 => exact (Env.le_consE rfl (by first | rfl | (congr 1; done)) (Env.le_consE rfl (by first | rfl | (congr 1; done)) (Env.le_consE rfl (by first | rfl | (congr 1; done)) Env.le_nil)))
    ·try simp only [B] at hb3
     refine wp_skip <| then_n <| wp_seq <| hs.dk <| .o (ok_move .tt) <| .o (ok_move .tt) ?_
     refine .o ((by first | exact ok_idxN un65 ty74 .tt .tt (fun _ => by exact hb2) | exact ok_idxM un65 ty74 .tt .tt (fun _ => by exact hb2) | exact ok_idx un65 ty74 .tt .tt (fun _ => by exact hb2))) ?_
     refine .o (ok_fieldP fd74_0 rfl .tt) <| .o (ok_load1 ty3 .tt) <| .o (ok_fieldV fd74_0 rfl .tt) <| .o (ok_loadB 0 ty3 .tt rfl rfl) <| .o (ok_nei .tt .tt) <| RunK.nil ?_
     intro I a w hs
     refine then_n ?_
     refine hs.cond .tt (fun hb7 => ?_) (fun hb7 => ?_)
     ·try simp only [B] at hb7
      refine St.region <| hs.m fun hs => hs.m fun hs => hs.m fun hs => ?_
      refine hs.o ((by first | exact ok_idxN un65 ty74 .tt .tt (fun _ => by exact hb2) | exact ok_idxM un65 ty74 .tt .tt (fun _ => by exact hb2) | exact ok_idx un65 ty74 .tt .tt (fun _ => by exact hb2))) fun hs => ?_
      refine hs.o ((by first | exact ok_loadA ty74 .tt rfl | exact ok_loadS ty74 .tt rfl)) fun hs => ?_
      refine hs.o (ok_lit (lxs := [(elt l k).cells]) un65 ty74 rfl zo74 rfl rfl (Parts.s rfl rfl rfl .tt Parts.nil) rfl rfl (by first | (simp; done) | (simp only [List.forall_mem_cons]; exact ⟨rfl, fun _ h => by simp at h⟩))) fun hs => ?_
      refine hs.append 1 rfl un65 ty74 rfl .tt .r rfl (by simp; omega) fun v77 a w hs => ?_
      rw [snocD] at hs
      refine hs.s fun hs => wpList_nil <| block_n <| then_n <| St.region <| hs.m fun hs => ?_
      refine hs.o (ok_add .tt .c (fun _ => by omega)) fun hs => ?_
      refine hs.s fun hs => wpList_nil <| then_n ?_
      refine hs.again (k + 1, done, out ++ [elt l k], v77, e) ?mu4 ?ok1004 (by rfl) ?env1004 (by repeat (first | exact Env.le_rfl | refine Env.le_push rfl ?_))
      case mu4 => simp; omega
      case ok1004 => exact ⟨hp.step hb2 (by omega) fun hd => by (rcases hb3 with h | h; (rw [hd] at h; cases h); omega), hek, hed⟩
      case env1004 => exact (Env.le_consE rfl (by first | rfl | (congr 1; done)) (Env.le_consE rfl (by first | rfl | (congr 1; done)) (Env.le_consE rfl (by first | rfl | (congr 1; done)) Env.le_nil)))
     ·exfalso; simp only [bne_eq_false_iff_eq] at hb7; rcases hb3 with h | h; (have := hp.late h k (Nat.le_refl _) hb2; omega); omega
      skip
   ·try simp only [B] at hb2
    refine wp_exit <| then_x <| then_x <| block_hit <| then_n <| wp_seq <| wp_seq <| St.region <| hs.m fun hs => hs.o (ok_not .tt) fun hs => wpList_nil <| then_n ?_
    refine hs.cond .tt (fun hb8 => ?_) (fun hb8 => ?_)
    ·try simp only [B] at hb8
     refine St.region <| hs.m fun hs => hs.o (ok_loadBS 0 ty74 .tt rfl rfl rfl) fun hs => ?_
     refine hs.o (ok_lit (lxs := [e.cells]) un65 ty74 rfl zo74 rfl rfl (Parts.s rfl rfl rfl .tt Parts.nil) rfl rfl (by first | (simp; done) | (simp only [List.forall_mem_cons]; exact ⟨rfl, fun _ h => by simp at h⟩))) fun hs => ?_
     refine hs.append 1 rfl un65 ty74 rfl .tt .r rfl (by simp; omega) fun v83 a w hs => ?_
     rw [snocD] at hs
     refine hs.s fun hs => wpList_nil <| then_n <| wp_seq <| St.region <| hs.m fun hs => hs.s fun hs => wpList_nil <| then_n <| wp_ret ?_
     obtain ⟨I, hs, hf⟩ := hs.freezeRow 1 rfl
     have hs := hs.upd (t := 4) rfl hf; clear hf
     refine hs.ret rfl (.cons (by first | exact .t rfl | exact .nil rfl) ResL.nil) ?_
     exact congrArg (AV.rows 3) (by obtain rfl := hed hb8; subst hb8; exact hp.endF (by omega) ▸ rfl)
    ·try simp only [B] at hb8
     refine wp_skip <| then_n <| wp_seq <| St.region <| hs.m fun hs => hs.s fun hs => wpList_nil <| then_n <| wp_ret ?_
     obtain ⟨I, hs, hf⟩ := hs.freezeRow 1 rfl
     have hs := hs.upd (t := 4) rfl hf; clear hf
     refine hs.ret rfl (.cons (by first | exact .t rfl | exact .nil rfl) ResL.nil) ?_
     exact congrArg (AV.rows 3) (by subst hb8; rw [hp.endT (by omega)])

theorem c_spec_DepsJoin (x y : List Dep) (hx : depsOk x = true) (hy : depsOk y = true) :
    Fn Tryz.prog 104 [depsAV x, depsAV y] (depsAV (joinD x y)) := by
 refine Fn.intro 32 Tryz.func104 rfl Tryz.ntmps104 rfl (by kernel_rfl) (fun W I a hs => ?_)
 have hl6 := depsOk_len6 hx
 have hl6y := depsOk_len6 hy
 refine wp_seq <| St.region <| hs.sc fun hs => wpList_nil <| then_n <| wp_seq <| wp_seq <| St.region <| hs.m fun hs => ?_
 refine hs.o (ok_call (c_spec_DepsOk ..) (args_cons .r args_nil)) fun hs => ?_
 refine hs.o (ok_not .tt) fun hs => hs.m fun hs => hs.q .F (ok_move .tt) fun hs => hs.q .F (ok_call (c_spec_DepsOk ..) (args_cons .ag args_nil)) fun hs => ?_
 refine hs.q .F (ok_not .ag) fun hs => ?_
 refine hs.o (ok_or .tt .c .pc) fun hs => wpList_nil <| then_n ?_
 refine hs.cond .tt (fun hb1 => ?_) (fun hb1 => ?_)
 ·exfalso; rw [hx, hy] at hb1; cases hb1
  skip
 ·skip
  refine wp_skip <| then_n <| wp_seq <| St.region ?_
  refine hs.lit0 rfl un65 ty74 (by decide) fun b16 I a w hs => ?_
  refine hs.m fun hs => ?_
  refine hs.append 0 rfl un65 ty74 rfl .tt .r rfl (by simp; omega) fun v18 a w hs => ?_
  obtain ⟨I, hs, hf⟩ := hs.freezeRow 0 rfl
  have hs := hs.upd (t := 18) rfl hf; clear hf
  have hs := hs.drop 0
  refine hs.s fun hs => wpList_nil <| then_n <| wp_seq <| wp_seq <| St.region <| hs.sc fun hs => wpList_nil <| then_n <| wp_block ?_
  refine St.loopS (σ := Nat) (5 :: 6 :: 19 :: 20 :: 21 :: 22 :: 23 :: 24 :: 25 :: 26 :: 27 :: 28 :: 29 :: 30 :: []) ⟨fun k => [(6, AV.int k), (5, depsAV (joinD x (y.take k)))], fun k => [], fun k => k ≤ y.length⟩ (fun k => y.length - k) 0 hs rfl ?ok1 ?env1 ?round1
  case ok1 => exact Nat.zero_le _
  case env1 => exact (Env.le_consE rfl (by rfl) (Env.le_consE rfl (by rfl) Env.le_nil))
  case round1 =>
   rintro k I a w hok hs
   have hk : k ≤ y.length := hok
   refine wp_seq <| wp_seq <| St.region <| hs.m fun hs => hs.m fun hs => ?_
   refine hs.o ((by first | exact ok_lenM un65 .tt | exact ok_len un65 .tt | exact ok_lenV un65 .tt)) fun hs => ?_
   refine hs.o (ok_lss .tt .tt) fun hs => wpList_nil <| then_n ?_
   refine hs.cond .tt (fun hb2 => ?_) (fun hb2 => ?_)
   ·try simp only [B] at hb2
    refine wp_skip <| then_n <| wp_seq <| wp_block <| St.region <| hs.m fun hs => hs.m fun hs => hs.m fun hs => ?_
    refine hs.o ((by first | exact ok_idxN un65 ty74 .tt .tt (fun _ => by exact hb2) | exact ok_idxM un65 ty74 .tt .tt (fun _ => by exact hb2) | exact ok_idx un65 ty74 .tt .tt (fun _ => by exact hb2))) fun hs => ?_
    refine hs.o ((by first | exact ok_loadA ty74 .tt rfl | exact ok_loadS ty74 .tt rfl)) fun hs => ?_
    refine hs.o (ok_call (c_spec_DepsPut _ _ (depsOk_join_take hx hy k) (depsOk_all hy (elt_mem hb2))) (args_cons .r (args_cons .tt args_nil))) fun hs => ?_
    refine hs.s fun hs => wpList_nil <| block_n <| then_n <| St.region <| hs.m fun hs => ?_
    refine hs.o (ok_add .tt .c (fun _ => by omega)) fun hs => ?_
    refine hs.s fun hs => wpList_nil <| then_n ?_
    refine hs.again (k + 1) ?mu1 ?ok1001 (by rfl) ?env1001 (by repeat (first | exact Env.le_rfl | refine Env.le_push rfl ?_))
    case mu1 => omega
    case ok1001 => exact hb2
    case env1001 => exact (Env.le_consE rfl (by rfl) (Env.le_consE rfl (by exact congrArg depsAV (by rw [joinD_take hb2])) Env.le_nil))
   ·try simp only [B] at hb2
    refine wp_exit <| then_x <| then_x <| block_hit <| then_n <| wp_seq <| St.region <| hs.m fun hs => hs.s fun hs => wpList_nil <| then_n <| wp_ret ?_
    refine hs.ret rfl (.cons (by first | exact .t rfl | exact .nil rfl) ResL.nil) ?_
    exact congrArg depsAV (by rw [List.take_of_length_le (by omega)])

end Go.Proofs.YtlppgilifnkapaaGreat
