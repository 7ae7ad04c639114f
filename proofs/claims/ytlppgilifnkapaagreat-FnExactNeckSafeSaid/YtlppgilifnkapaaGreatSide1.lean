/- Walks: version sets cloned, put into, joined to sides. -/
import Derived.Test.YtlppgilifnkapaaGreatSideM
import Derived.Test.YtlppgilifnkapaaGreatInsert
import Derived.Test.YtlppgilifnkapaaGreatCall1
import Derived.Test.YtlppgilifnkapaaGreatCall2
import Derived.Test.YtlppgilifnkapaaGreatCall4
import Derived.Test.YtlppgilifnkapaaGreatCall6
set_option linter.unusedVariables false
set_option linter.unusedSimpArgs false
set_option maxRecDepth 100000
namespace Go.Proofs.YtlppgilifnkapaaGreat
open Go Go.RowKit

theorem c_impl_Ver_clone (v : Ver) (h : v.deps.length ≤ 1048576) :
    Fn Tryz.prog 203 [v.av] (v.av) := by
 refine Fn.intro 8 Tryz.func203 rfl Tryz.ntmps203 rfl (by kernel_rfl) (fun W I a hs => ?_)
 refine wp_seq <| St.region <| hs.box rfl .tt fun b1 I a w hs => hs.alloc rfl ty94 zc94 fun b2 I a w hs => wpList_nil <| then_n <| wp_seq <| St.region <| hs.o (ok_fieldV fd94_5 rfl .tt) fun hs => hs.o (ok_loadB 0 ty65 .tt rfl rfl) fun hs => ?_
 refine hs.o (ok_call (c_impl_cloneDeps v.deps h) (args_cons .r args_nil)) fun hs => ?_
 refine hs.o (ok_fieldV fd94_5 rfl .tt) fun hs => ?_
 refine hs.store1 0 ty65 .tt .r (by first | exact one_val rfl | exact one_rows | exact one_ptr | exact one_fn) rfl rfl fun a w hs => ?_
 refine wpList_nil <| then_n <| wp_seq <| St.region <| hs.o (ok_loadBS 0 ty94 .tt rfl rfl rfl) fun hs => ?_
 refine hs.storeB 1 ty94 .tt .tt rfl (by first | rfl | assumption) rfl fun a w hs => ?_
 refine wpList_nil <| then_n <| wp_ret ?_
 refine hs.ret rfl (.cons (.s 1 ty94 rfl rfl (by first | rfl | assumption)) ResL.nil) ?_
 rfl

theorem c_impl_cloneChain (l : List Ver) (h : l.length ≤ 1048576) (hd : ∀ v ∈ l, v.deps.length ≤ 1048576) :
    FnO Tryz.prog 131 [versAV l] 94 7 (l.map Ver.cells) := by
 refine FnO.intro 19 Tryz.func131 rfl Tryz.ntmps131 rfl (by kernel_rfl) (fun W I a hs => ?_)
 have hs := hs.ownNil (sz := 7) 94
 refine wp_seq <| St.region <| hs.sc fun hs => wpList_nil <| then_n <| wp_seq <| St.region <| hs.sc fun hs => wpList_nil <| then_n <| wp_seq <| wp_seq <| St.region <| hs.m fun hs => ?_
 refine hs.o ((by first | exact ok_lenM un48 .tt | exact ok_len un48 .tt | exact ok_lenV un48 .tt)) fun hs => ?_
 refine hs.mc fun hs => wpList_nil <| then_n <| wp_block ?_
 refine St.loopS (σ := Nat × Value) (3 :: 5 :: 8 :: 9 :: 10 :: 11 :: 12 :: 13 :: 14 :: 15 :: 16 :: 17 :: []) ⟨fun ⟨k, v⟩ => [(8, AV.int k), (3, AV.val v)], fun ⟨k, v⟩ => [Own.row v 94 7 ((l.take k).map Ver.cells)], fun ⟨k, v⟩ => k ≤ l.length⟩ (fun ⟨k, v⟩ => l.length - k) (0, .slice none 0 0) hs rfl ?ok1 ?env1 ?round1
 case ok1 => exact Nat.zero_le _
 case env1 => exact (Env.le_consE rfl (by rfl) (Env.le_consE rfl (by rfl) Env.le_nil))
 case round1 =>
  rintro ⟨k, v⟩ I a w hok hs
  have hk : k ≤ l.length := hok
  change St _ _ [Own.row v 94 7 ((l.take k).map Ver.cells)] _ _ _ at hs
  refine wp_seq <| St.region <| hs.o (ok_lss .tt .tt) fun hs => wpList_nil <| then_n <| wp_seq ?_
  refine hs.cond .tt (fun hb1 => ?_) (fun hb1 => ?_)
  ·try simp only [B] at hb1
   refine wp_skip <| then_n <| wp_seq <| wp_block <| wp_seq <| St.region ?_
   refine hs.o ((by first | exact ok_idxN un48 ty94 .tt .tt (fun _ => by exact hb1) | exact ok_idxM un48 ty94 .tt .tt (fun _ => by exact hb1) | exact ok_idx un48 ty94 .tt .tt (fun _ => by exact hb1))) fun hs => ?_
   refine hs.o ((by first | exact ok_loadA ty94 .tt rfl | exact ok_loadS ty94 .tt rfl)) fun hs => ?_
   refine hs.alloc rfl ty94 zc94 fun b5 I a w hs => ?_
   refine hs.storeB 1 ty94 .tt .tt rfl (by first | rfl | assumption) rfl fun a w hs => ?_
   obtain ⟨I, hs, hf⟩ := hs.freezeBox 1 rfl
   have hs := hs.upd (t := 5) rfl hf; clear hf
   refine wpList_nil <| then_n <| St.region <| hs.m fun hs => ?_
   refine hs.o ((by first | exact ok_loadA ty94 .tt rfl | exact ok_loadS ty94 .tt rfl)) fun hs => ?_
   refine hs.o (ok_call (c_impl_Ver_clone (elt l k) (hd _ (elt_mem hb1))) (args_cons .tt args_nil)) fun hs => ?_
   refine hs.o (ok_lit (lxs := [(elt l k).cells]) un48 ty94 rfl zo94 rfl rfl (Parts.s rfl rfl rfl .tt Parts.nil) rfl rfl (by first | (simp; done) | (simp only [List.forall_mem_cons]; exact ⟨rfl, fun _ h => by simp at h⟩))) fun hs => ?_
   refine hs.append 0 rfl un48 ty94 rfl .tt .r rfl (by simp; omega) fun v16 a w hs => ?_
   rw [snocD, ← take_elt hb1] at hs
   refine hs.s fun hs => wpList_nil <| block_n <| then_n <| St.region ?_
   refine hs.o (ok_add .tt .c (fun _ => by omega)) fun hs => ?_
   refine hs.m fun hs => wpList_nil <| then_n ?_
   have hs := hs.drop 1
   refine hs.again (k + 1, v16) ?mu1 ?ok1001 (by rfl) ?env1001 (by repeat (first | exact Env.le_rfl | refine Env.le_push rfl ?_))
   case mu1 => simp; omega
   case ok1001 => exact hb1
   case env1001 => exact (Env.le_consE rfl (by first | rfl | (congr 1; done)) (Env.le_consE rfl (by first | rfl | (congr 1; done)) Env.le_nil))
  ·try simp only [B] at hb1
   refine wp_exit <| then_x <| then_x <| block_hit <| then_n <| wp_seq <| St.region <| hs.m fun hs => hs.s fun hs => wpList_nil <| then_n <| wp_ret ?_
   exact hs.retRow (r := 2) 0 rfl rfl rfl (by rw [List.take_of_length_le (by omega)])

theorem c_impl_insert (l : List Ver) (v : Ver) (h : l.length ≤ 1048575) (hd : ∀ u ∈ l, u.deps.length ≤ 1048576) (hv : v.deps.length ≤ 1048576) :
    Fn Tryz.prog 133 [versAV l, v.av] (versAV (insV l v)) := by
 refine Fn.intro 29 Tryz.func133 rfl Tryz.ntmps133 rfl (by kernel_rfl) (fun W I a hs => ?_)
 refine wp_seq <| St.region <| hs.o (ok_boxP .tt) fun hs => hs.sc fun hs => wpList_nil <| then_n <| wp_seq <| St.region <| hs.sc fun hs => wpList_nil <| then_n <| wp_seq <| wp_block ?_
 refine St.loopS (σ := Nat) (5 :: 6 :: 7 :: 8 :: 9 :: 10 :: 11 :: 12 :: 13 :: 14 :: 15 :: 16 :: 17 :: 18 :: 19 :: 20 :: 21 :: []) ⟨fun k => [(5, AV.int k)], fun k => [], fun k => k ≤ l.length ∧ ∀ i, i < k → verLess (elt l i) v = true⟩ (fun k => l.length - k) 0 hs rfl ?ok1 ?env1 ?round1
 case ok1 => exact ⟨Nat.zero_le _, fun i hi => by omega⟩
 case env1 => exact (Env.le_consE rfl (by rfl) Env.le_nil)
 case round1 =>
  rintro k I a w hok hs
  obtain ⟨hk, hall⟩ := hok
  refine wp_seq <| wp_seq <| hs.dk <| .o (ok_move .tt) <| .o (ok_move .tt) ?_
  refine .o ((by first | exact ok_lenM un48 .tt | exact ok_len un48 .tt | exact ok_lenV un48 .tt)) ?_
  refine .o (ok_lss .tt .tt) <| .o (ok_move .tt) <| .q .T (ok_move .tt) <| .q .T (ok_move .tt) ?_
  refine .q .T ((by first | exact ok_idxN un48 ty94 .ag .ag (fun hg => by simp at hg; omega) | exact ok_idxM un48 ty94 .ag .ag (fun hg => by simp at hg; omega) | exact ok_idx un48 ty94 .ag .ag (fun hg => by simp at hg; omega))) ?_
  refine .q .T ((by first | exact ok_loadA ty94 .ag rfl | exact ok_loadS ty94 .ag rfl)) ?_
  refine .q .T (ok_call (c_impl_Ver_dep ..) (args_cons .ag args_nil)) ?_
  refine .q .T ((by first | exact ok_loadA ty94 .tt rfl | exact ok_loadS ty94 .tt rfl)) ?_
  refine .q .T (ok_call (c_impl_Ver_dep ..) (args_cons .ag args_nil)) ?_
  refine .q .T (ok_call (c_impl_depLess ..) (args_cons .ag (args_cons .ag args_nil))) ?_
  refine .o (ok_and .tt .pc .c) <| RunK.nil ?_
  intro I a w hs
  refine then_n ?_
  refine hs.cond .tt (fun hb1 => ?_) (fun hb1 => ?_)
  ·try simp only [B] at hb1
   refine wp_skip <| then_n <| wp_block <| St.region <| hs.m fun hs => ?_
   refine hs.o (ok_add .tt .c (fun _ => by omega)) fun hs => ?_
   refine hs.s fun hs => wpList_nil <| block_n <| then_n ?_
   refine hs.again (k + 1) ?mu1 ?ok1001 (by rfl) ?env1001 (by repeat (first | exact Env.le_rfl | refine Env.le_push rfl ?_))
   case mu1 => omega
   case ok1001 => exact ⟨by omega, fun i h1 => by rcases Nat.lt_succ_iff_lt_or_eq.1 h1 with h | h; exact hall i h; rw [h]; exact hb1.2⟩
   case env1001 => exact (Env.le_consE rfl (by first | rfl | (congr 1; done)) Env.le_nil)
  ·try simp only [B] at hb1
   refine wp_exit <| then_x <| then_x <| block_hit <| then_n <| wp_seq ?_
   refine hs.drawA 6 (by kernel_rfl) (by kernel_rfl) (by kernel_rfl) ?_
   simp only [List.take_succ_cons, List.take_zero, List.drop_succ_cons, List.drop_zero]
   refine RunTA.cons (.of rfl (ok_move .tt)) ?_
   refine RunTA.callO (c_impl_cloneChain l (by omega) hd) (args_cons .r args_nil) ?_
   refine RunTA.cons (.of rfl (ok_move .tt)) ?_
   refine RunTA.cons (.of rfl ((by first | exact ok_loadA ty94 .tt rfl | exact ok_loadS ty94 .tt rfl))) ?_
   refine RunTA.cons (.of rfl (ok_call (c_impl_Ver_clone v hv) (args_cons .tt args_nil))) ?_
   refine RunTA.cons (.of rfl (ok_lit (lxs := [v.cells]) un48 ty94 rfl zo94 rfl rfl (Parts.s rfl rfl rfl .tt Parts.nil) rfl rfl (by first | (simp; done) | (simp only [List.forall_mem_cons]; exact ⟨rfl, fun _ h => by simp at h⟩)))) ?_
   refine RunTA.nil ?_
   intro I a w hs
   obtain ⟨v23, hs⟩ := hs.openRow (d := 23)
   refine hs.callM (c_slices_Insert_impl_Ver_impl_Ver _ (l.map Ver.cells) v.cells k (by rw [List.length_map]; exact hk) (by rw [List.length_map]; omega) (fun r hr => by obtain ⟨u, _, rfl⟩ := List.mem_map.1 hr; rfl) rfl) (args_cons .tt (args_cons .tt (args_cons .tt args_nil))) rfl fun I a w hs => ?_
   refine hs.s fun hs => wpList_nil <| then_n <| wp_ret ?_
   refine hs.ret rfl (.cons (by first | exact .t rfl | exact .nil rfl) ResL.nil) ?_
   exact congrArg (AV.rows 7) (by rw [← insV_at hk hall (fun hl => by rcases hb1 with h | h; omega; exact h), List.map_append, List.map_cons, List.map_take, List.map_drop])


theorem side_parts {x : Neck} (hok : neckOk x = true) {i : Nat} (hi : i < 4) : chainOk (elt x.servers i).vers = true ∧ chainOk (elt x.servers i).waits = true ∧ debtsOk (elt x.servers i).owes = true ∧ debtsOk (elt x.servers i).knows = true ∧ (elt x.servers i).slots.length = 3 := by
  have h := neckOk_server hok hi
  have h2 := head_parts (serverOk_head h.1)
  exact ⟨h2.2.1, h2.2.2.1, h2.2.2.2.1, h2.2.2.2.2.1, h2.1⟩
theorem chain_deps {l : List Ver} (h : chainOk l = true) : ∀ v ∈ l, v.deps.length ≤ 6 := fun v hv => depsOk_len6 (verOk_parts (chain_all h v hv)).2.2
theorem adds_small {l out : List Ver} (h1 : ∀ v ∈ l, v.deps.length ≤ 6) (h2 : ∀ v ∈ out, v.deps.length ≤ 6) : ∀ v ∈ l.foldl addV out, v.deps.length ≤ 6 := fun v hv => (adds_mem hv).elim (h1 v) (h2 v)
theorem debts_len {l : List Dep} (h : debtsOk l = true) : l.length ≤ 80 := by
  unfold debtsOk at h
  rw [Bool.and_eq_true, decide_eq_true_eq] at h; exact h.1

theorem c_impl_Neck_side (x : Neck) (s : Int) (hok : neckOk x = true) (hs0 : 0 ≤ s ∧ s ≤ 1) :
    Fn Tryz.prog 59 [x.av, AV.int s] (versAV (sideL x s)) := by
 refine Fn.intro 39 Tryz.func59 rfl Tryz.ntmps59 rfl (by kernel_rfl) (fun W I a hs => ?_)
 have h4 := (neckOk_server hok (k := 0) (by omega)).2.1
 obtain ⟨ca, -⟩ := side_parts hok (i := (2 * s).toNat) (by omega)
 obtain ⟨cb, -⟩ := side_parts hok (i := (2 * s + 1).toNat) (by omega)
 have la := chain_len ca
 have lb := chain_len cb
 refine wp_seq <| St.region <| hs.o (ok_boxP .tt) fun hs => hs.sc fun hs => wpList_nil <| then_n <| wp_seq <| St.region <| hs.o (ok_fieldP fd35_1 rfl .tt) fun hs => hs.o (ok_load1 ty30 .tt) fun hs => hs.m fun hs => ?_
 refine hs.o (ok_mul .c .tt (fun _ => by omega)) fun hs => ?_
 refine hs.o ((by first | exact ok_idxN un30 ty89 .tt .tt (fun _ => by omega) | exact ok_idxM un30 ty89 .tt .tt (fun _ => by omega) | exact ok_idx un30 ty89 .tt .tt (fun _ => by omega))) fun hs => ?_
 refine hs.o (ok_fieldP fd89_3 rfl .tt) fun hs => hs.o (ok_load1 ty48 .tt) fun hs => ?_
 refine hs.o (ok_call (FnO.fn (c_impl_cloneChain (elt x.servers (2 * s).toNat).vers (by omega) (fun v hv => by have := chain_deps ca v hv; omega))) (args_cons .r args_nil)) fun hs => ?_
 refine hs.s fun hs => wpList_nil <| then_n <| wp_seq <| wp_seq <| St.region <| hs.o (ok_fieldP fd35_1 rfl .tt) fun hs => hs.o (ok_load1 ty30 .tt) fun hs => hs.m fun hs => ?_
 refine hs.o (ok_mul .c .tt (fun _ => by omega)) fun hs => ?_
 refine hs.o (ok_add .tt .c (fun _ => by omega)) fun hs => ?_
 refine hs.o ((by first | exact ok_idxN un30 ty89 .tt .tt (fun _ => by omega) | exact ok_idxM un30 ty89 .tt .tt (fun _ => by omega) | exact ok_idx un30 ty89 .tt .tt (fun _ => by omega))) fun hs => ?_
 refine hs.o (ok_fieldP fd89_3 rfl .tt) fun hs => hs.o (ok_load1 ty48 .tt) fun hs => ?_
 refine hs.o ((by first | exact ok_lenM un48 .tt | exact ok_len un48 .tt | exact ok_lenV un48 .tt)) fun hs => ?_
 refine hs.mc fun hs => wpList_nil <| then_n <| wp_block ?_
 refine St.loopS (σ := Nat) (5 :: 7 :: 25 :: 26 :: 27 :: 28 :: 29 :: 30 :: 31 :: 32 :: 33 :: 34 :: 35 :: 36 :: 37 :: []) ⟨fun k => [(25, AV.int k), (5, versAV (((elt x.servers (2 * s + 1).toNat).vers.take k).foldl addV (elt x.servers (2 * s).toNat).vers))], fun k => [], fun k => k ≤ (elt x.servers (2 * s + 1).toNat).vers.length⟩ (fun k => (elt x.servers (2 * s + 1).toNat).vers.length - k) 0 hs rfl ?ok1 ?env1 ?round1
 case ok1 => exact Nat.zero_le _
 case env1 => exact (Env.le_consE rfl (by rfl) (Env.le_consE rfl (by rfl) Env.le_nil))
 case round1 =>
  rintro k I a w hok hs
  have hk : k ≤ (elt x.servers (2 * s + 1).toNat).vers.length := hok
  refine wp_seq <| St.region <| hs.o (ok_lss .tt .tt) fun hs => wpList_nil <| then_n <| wp_seq ?_
  refine hs.cond .tt (fun hb1 => ?_) (fun hb1 => ?_)
  ·try simp only [B] at hb1
   refine wp_skip <| then_n <| wp_seq <| wp_block <| wp_seq <| St.region ?_
   refine hs.o ((by first | exact ok_idxN un48 ty94 .tt .tt (fun _ => by exact hb1) | exact ok_idxM un48 ty94 .tt .tt (fun _ => by exact hb1) | exact ok_idx un48 ty94 .tt .tt (fun _ => by exact hb1))) fun hs => ?_
   refine hs.o ((by first | exact ok_loadA ty94 .tt rfl | exact ok_loadS ty94 .tt rfl)) fun hs => ?_
   refine hs.alloc rfl ty94 zc94 fun b7 I a w hs => ?_
   refine hs.storeB 0 ty94 .tt .tt rfl (by first | rfl | assumption) rfl fun a w hs => ?_
   obtain ⟨I, hs, hf⟩ := hs.freezeBox 0 rfl
   have hs := hs.upd (t := 7) rfl hf; clear hf
   refine wpList_nil <| then_n <| wp_seq <| St.region <| hs.m fun hs => ?_
   refine hs.o ((by first | exact ok_loadA ty94 .tt rfl | exact ok_loadS ty94 .tt rfl)) fun hs => ?_
   refine hs.o (ok_call (c_impl_Ver_dep ..) (args_cons .tt args_nil)) fun hs => ?_
   refine hs.o (ok_call (c_impl_place ..) (args_cons .r (args_cons .tt args_nil))) fun hs => ?_
   refine hs.o (ok_lss .tt .c) fun hs => wpList_nil <| then_n ?_
   refine hs.cond .tt (fun hb2 => ?_) (fun hb2 => ?_)
   ·try simp only [B] at hb2
    refine St.region <| hs.m fun hs => ?_
    refine hs.o ((by first | exact ok_loadA ty94 .tt rfl | exact ok_loadS ty94 .tt rfl)) fun hs => ?_
    refine hs.o (ok_call (c_impl_insert (((elt x.servers (2 * s + 1).toNat).vers.take k).foldl addV (elt x.servers (2 * s).toNat).vers) (elt (elt x.servers (2 * s + 1).toNat).vers k) (by have := adds_len ((elt x.servers (2 * s + 1).toNat).vers.take k) (elt x.servers (2 * s).toNat).vers; simp at this; omega) (fun v hv => by have := adds_small (fun v hv => chain_deps cb v (List.mem_of_mem_take hv)) (chain_deps ca) v hv; omega) (by have := chain_deps cb _ (elt_mem hb1); omega)) (args_cons .r (args_cons (.t rfl) args_nil))) fun hs => ?_
    refine hs.s fun hs => wpList_nil <| block_n <| then_n <| St.region ?_
    refine hs.o (ok_add .tt .c (fun _ => by omega)) fun hs => ?_
    refine hs.m fun hs => wpList_nil <| then_n ?_
    have hs := hs.drop 0
    refine hs.again (k + 1) ?mu1 ?ok1001 (by rfl) ?env1001 (by repeat (first | exact Env.le_rfl | refine Env.le_push rfl ?_))
    case mu1 => omega
    case ok1001 => exact hb1
    case env1001 => exact (Env.le_consE rfl (by rfl) (Env.le_consE rfl (by first | exact congrArg versAV (by rw [adds_take hb1, addV, if_pos hb2]) | exact congrArg versAV (by rw [adds_take hb1, addV, if_neg (by omega)])) Env.le_nil))
   ·try simp only [B] at hb2
    refine wp_skip <| block_n <| then_n <| St.region ?_
    refine hs.o (ok_add .tt .c (fun _ => by omega)) fun hs => ?_
    refine hs.m fun hs => wpList_nil <| then_n ?_
    have hs := hs.drop 0
    refine hs.again (k + 1) ?mu2 ?ok1002 (by rfl) ?env1002 (by repeat (first | exact Env.le_rfl | refine Env.le_push rfl ?_))
    case mu2 => omega
    case ok1002 => exact hb1
    case env1002 => exact (Env.le_consE rfl (by rfl) (Env.le_consE rfl (by first | exact congrArg versAV (by rw [adds_take hb1, addV, if_pos hb2]) | exact congrArg versAV (by rw [adds_take hb1, addV, if_neg (by omega)])) Env.le_nil))
  ·try simp only [B] at hb1
   refine wp_exit <| then_x <| then_x <| block_hit <| then_n <| wp_seq <| St.region <| hs.m fun hs => hs.s fun hs => wpList_nil <| then_n <| wp_ret ?_
   refine hs.ret rfl (.cons (by first | exact .t rfl | exact .nil rfl) ResL.nil) ?_
   exact congrArg versAV (by rw [List.take_of_length_le (by omega)]; rfl)

set_option maxHeartbeats 4000000 in
theorem c_spec_l3Put (l : List Ver) (v : Ver) (h : l.length ≤ 1048575) (hd : ∀ u ∈ l, u.deps.length ≤ 1048576) (hv : v.deps.length ≤ 1048576) :
    Fn Tryz.prog 84 [versAV l, v.av] (versAV (insV2 l v)) := by
 refine Fn.intro 46 Tryz.func84 rfl Tryz.ntmps84 rfl (by kernel_rfl) (fun W I a hs => ?_)
 refine wp_seq <| St.region <| hs.o (ok_boxP .tt) fun hs => hs.sc fun hs => wpList_nil <| then_n <| wp_seq <| St.region ?_
 refine hs.lit0 rfl un48 ty94 (by decide) fun b8 I a w hs => ?_
 refine hs.s fun hs => wpList_nil <| then_n <| wp_seq <| St.region <| hs.sc fun hs => wpList_nil <| then_n <| wp_seq <| wp_seq <| St.region <| hs.sc fun hs => wpList_nil <| then_n <| wp_block ?_
 refine St.loopS (σ := Nat × Bool × List Ver × Value) (5 :: 6 :: 7 :: 9 :: 10 :: 11 :: 12 :: 13 :: 14 :: 15 :: 16 :: 17 :: 18 :: 19 :: 20 :: 21 :: 22 :: 23 :: 24 :: 25 :: 26 :: 27 :: 28 :: 29 :: 30 :: 31 :: 32 :: 33 :: 34 :: 35 :: 36 :: 37 :: []) ⟨fun ⟨k, done, out, u⟩ => [(7, AV.int k), (6, AV.bool done), (5, AV.val u)], fun ⟨k, done, out, u⟩ => [Own.row u 94 7 (out.map Ver.cells)], fun ⟨k, done, out, u⟩ => InsAt l v k done out⟩ (fun ⟨k, done, out, u⟩ => l.length - k) (0, false, [], .slice (some ⟨b8, 0, none⟩) 0 0) hs rfl ?ok1 ?env1 ?round1
 case ok1 => exact InsAt.zero l v
 case env1 => exact (Env.le_consE rfl (by rfl) (Env.le_consE rfl (by rfl) (Env.le_consE rfl (by rfl) Env.le_nil)))
 case round1 =>
  rintro ⟨k, done, out, u⟩ I a w hok hs
  have hp : InsAt l v k done out := hok
  have hk := hp.hk
  have hol := hp.len
  have hdn : done.toNat ≤ 1 := by cases done <;> simp
  change St _ _ [Own.row u 94 7 (out.map Ver.cells)] _ _ _ at hs
  refine wp_seq <| wp_seq <| St.region <| hs.m fun hs => hs.m fun hs => ?_
  refine hs.o ((by first | exact ok_lenM un48 .tt | exact ok_len un48 .tt | exact ok_lenV un48 .tt)) fun hs => ?_
  refine hs.o (ok_lss .tt .tt) fun hs => wpList_nil <| then_n ?_
  refine hs.cond .tt (fun hb1 => ?_) (fun hb1 => ?_)
  ·try simp only [B] at hb1
   refine wp_skip <| then_n <| wp_seq <| wp_block <| wp_seq <| wp_seq <| hs.dk <| .o (ok_move .tt) <| .o (ok_not .tt) <| .o (ok_move .tt) ?_
   refine .q .T ((by first | exact ok_loadA ty94 .tt rfl | exact ok_loadS ty94 .tt rfl)) ?_
   refine .q .T (ok_move .tt) <| .q .T (ok_move .tt) ?_
   refine .q .T ((by first | exact ok_idxN un48 ty94 .ag .ag (fun hg => by simp at hg; omega) | exact ok_idxM un48 ty94 .ag .ag (fun hg => by simp at hg; omega) | exact ok_idx un48 ty94 .ag .ag (fun hg => by simp at hg; omega))) ?_
   refine .q .T ((by first | exact ok_loadA ty94 .ag rfl | exact ok_loadS ty94 .ag rfl)) ?_
   refine .q .T (ok_call (c_spec_l3Less ..) (args_cons .ag (args_cons .ag args_nil))) ?_
   refine .o (ok_and .tt .pc .c) <| RunK.nil ?_
   intro I a w hs
   refine then_n ?_
   refine hs.cond .tt (fun hb2 => ?_) (fun hb2 => ?_)
   ·try simp only [B] at hb2
    refine wp_seq <| St.region <| hs.m fun hs => ?_
    refine hs.o ((by first | exact ok_loadA ty94 .tt rfl | exact ok_loadS ty94 .tt rfl)) fun hs => ?_
    refine hs.o (ok_call (c_spec_l2Copy v hv) (args_cons .tt args_nil)) fun hs => ?_
    refine hs.o (ok_lit (lxs := [v.cells]) un48 ty94 rfl zo94 rfl rfl (Parts.s rfl rfl rfl .tt Parts.nil) rfl rfl (by first | (simp; done) | (simp only [List.forall_mem_cons]; exact ⟨rfl, fun _ h => by simp at h⟩))) fun hs => ?_
    refine hs.append 0 rfl un48 ty94 rfl .tt .r rfl (by simp; omega) fun v29 a w hs => ?_
    rw [snocD] at hs
    refine hs.s fun hs => wpList_nil <| then_n <| St.region <| hs.sc fun hs => wpList_nil <| then_n <| St.region <| hs.m fun hs => hs.m fun hs => hs.m fun hs => ?_
    refine hs.o ((by first | exact ok_idxN un48 ty94 .tt .tt (fun _ => by exact hb1) | exact ok_idxM un48 ty94 .tt .tt (fun _ => by exact hb1) | exact ok_idx un48 ty94 .tt .tt (fun _ => by exact hb1))) fun hs => ?_
    refine hs.o ((by first | exact ok_loadA ty94 .tt rfl | exact ok_loadS ty94 .tt rfl)) fun hs => ?_
    refine hs.o (ok_call (c_spec_l2Copy (elt l k) (hd _ (elt_mem hb1))) (args_cons .tt args_nil)) fun hs => ?_
    refine hs.o (ok_lit (lxs := [(elt l k).cells]) un48 ty94 rfl zo94 rfl rfl (Parts.s rfl rfl rfl .tt Parts.nil) rfl rfl (by first | (simp; done) | (simp only [List.forall_mem_cons]; exact ⟨rfl, fun _ h => by simp at h⟩))) fun hs => ?_
    refine hs.append 0 rfl un48 ty94 rfl .tt .r rfl (by simp; omega) fun v37 a w hs => ?_
    rw [snocD] at hs
    refine hs.s fun hs => wpList_nil <| block_n <| then_n <| St.region <| hs.m fun hs => ?_
    refine hs.o (ok_add .tt .c (fun _ => by omega)) fun hs => ?_
    refine hs.s fun hs => wpList_nil <| then_n ?_
    refine hs.again (k + 1, true, (out ++ [v]) ++ [elt l k], v37) ?mu1 ?ok1001 (by rfl) ?env1001 (by repeat (first | exact Env.le_rfl | refine Env.le_push rfl ?_))
    case mu1 => simp; omega
    case ok1001 => obtain ⟨h1, h2⟩ := hb2; subst h1; exact hp.before hb1 h2
    case env1001 => exact (Env.le_consE rfl (by first | rfl | (congr 1; done)) (Env.le_consE rfl (by first | rfl | (congr 1; done)) (Env.le_consE rfl (by first | rfl | (congr 1; done)) Env.le_nil)))
   ·try simp only [B] at hb2
    refine wp_skip <| then_n <| St.region <| hs.m fun hs => hs.m fun hs => hs.m fun hs => ?_
    refine hs.o ((by first | exact ok_idxN un48 ty94 .tt .tt (fun _ => by exact hb1) | exact ok_idxM un48 ty94 .tt .tt (fun _ => by exact hb1) | exact ok_idx un48 ty94 .tt .tt (fun _ => by exact hb1))) fun hs => ?_
    refine hs.o ((by first | exact ok_loadA ty94 .tt rfl | exact ok_loadS ty94 .tt rfl)) fun hs => ?_
    refine hs.o (ok_call (c_spec_l2Copy (elt l k) (hd _ (elt_mem hb1))) (args_cons .tt args_nil)) fun hs => ?_
    refine hs.o (ok_lit (lxs := [(elt l k).cells]) un48 ty94 rfl zo94 rfl rfl (Parts.s rfl rfl rfl .tt Parts.nil) rfl rfl (by first | (simp; done) | (simp only [List.forall_mem_cons]; exact ⟨rfl, fun _ h => by simp at h⟩))) fun hs => ?_
    refine hs.append 0 rfl un48 ty94 rfl .tt .r rfl (by simp; omega) fun v37 a w hs => ?_
    rw [snocD] at hs
    refine hs.s fun hs => wpList_nil <| block_n <| then_n <| St.region <| hs.m fun hs => ?_
    refine hs.o (ok_add .tt .c (fun _ => by omega)) fun hs => ?_
    refine hs.s fun hs => wpList_nil <| then_n ?_
    refine hs.again (k + 1, done, out ++ [elt l k], v37) ?mu2 ?ok1002 (by rfl) ?env1002 (by repeat (first | exact Env.le_rfl | refine Env.le_push rfl ?_))
    case mu2 => simp; omega
    case ok1002 => exact hp.step hb1 (by simpa using hb2)
    case env1002 => exact (Env.le_consE rfl (by first | rfl | (congr 1; done)) (Env.le_consE rfl (by first | rfl | (congr 1; done)) (Env.le_consE rfl (by first | rfl | (congr 1; done)) Env.le_nil)))
  ·try simp only [B] at hb1
   refine wp_exit <| then_x <| then_x <| block_hit <| then_n <| wp_seq <| wp_seq <| St.region <| hs.m fun hs => hs.o (ok_not .tt) fun hs => wpList_nil <| then_n ?_
   refine hs.cond .tt (fun hb3 => ?_) (fun hb3 => ?_)
   ·try simp only [B] at hb3
    refine St.region <| hs.m fun hs => ?_
    refine hs.o ((by first | exact ok_loadA ty94 .tt rfl | exact ok_loadS ty94 .tt rfl)) fun hs => ?_
    refine hs.o (ok_call (c_spec_l2Copy v hv) (args_cons .tt args_nil)) fun hs => ?_
    refine hs.o (ok_lit (lxs := [v.cells]) un48 ty94 rfl zo94 rfl rfl (Parts.s rfl rfl rfl .tt Parts.nil) rfl rfl (by first | (simp; done) | (simp only [List.forall_mem_cons]; exact ⟨rfl, fun _ h => by simp at h⟩))) fun hs => ?_
    refine hs.append 0 rfl un48 ty94 rfl .tt .r rfl (by simp; omega) fun v44 a w hs => ?_
    rw [snocD] at hs
    refine hs.s fun hs => wpList_nil <| then_n <| wp_seq <| St.region <| hs.m fun hs => hs.s fun hs => wpList_nil <| then_n <| wp_ret ?_
    obtain ⟨I, hs, hf⟩ := hs.freezeRow 0 rfl
    have hs := hs.upd (t := 4) rfl hf; clear hf
    refine hs.ret rfl (.cons (by first | exact .t rfl | exact .nil rfl) ResL.nil) ?_
    exact congrArg (AV.rows 7) (by subst hb3; exact hp.endF (by omega) ▸ rfl)
   ·try simp only [B] at hb3
    refine wp_skip <| then_n <| wp_seq <| St.region <| hs.m fun hs => hs.s fun hs => wpList_nil <| then_n <| wp_ret ?_
    obtain ⟨I, hs, hf⟩ := hs.freezeRow 0 rfl
    have hs := hs.upd (t := 4) rfl hf; clear hf
    refine hs.ret rfl (.cons (by first | exact .t rfl | exact .nil rfl) ResL.nil) ?_
    exact congrArg (AV.rows 7) (by subst hb3; rw [hp.endT (by omega)])

theorem c_spec_l43At (l : List Ver) (key : Int) (st : Stamp) :
    Fn Tryz.prog 62 [versAV l, AV.int key, st.av] (AV.tup [((atV l ⟨key, st⟩).getD default).av, AV.bool (atV l ⟨key, st⟩).isSome]) := by
 refine Fn.intro 36 Tryz.func62 rfl Tryz.ntmps62 rfl (by kernel_rfl) (fun W I a hs => ?_)
 have hle := hs.lenleM (t := 0) rfl
 refine wp_seq <| St.region <| hs.o (ok_boxP .tt) fun hs => hs.alloc rfl ty94 zc94 fun b6 I a w hs => hs.sc fun hs => wpList_nil <| then_n <| wp_seq <| wp_seq <| St.region <| hs.sc fun hs => wpList_nil <| then_n <| wp_block ?_
 refine St.loopS (σ := Nat) (7 :: 8 :: 9 :: 10 :: 11 :: 12 :: 13 :: 14 :: 15 :: 16 :: 17 :: 18 :: 19 :: 20 :: 21 :: 22 :: 23 :: 24 :: 25 :: 26 :: 27 :: 28 :: 29 :: 30 :: 31 :: 32 :: 33 :: 34 :: []) ⟨fun k => [(8, AV.int k)], fun k => [Own.box b6 94 [AV.val (.int .i64 0), AV.val (.int .i64 0), AV.val (.int .i64 0), AV.val (.int .i64 0), AV.val (.int .i64 0), AV.val (.int .i64 0), AV.rows 3 []]], fun k => k ≤ l.length ∧ ∀ i, i < k → depIs ⟨key, st⟩ (elt l i) = false⟩ (fun k => l.length - k) 0 hs rfl ?ok1 ?env1 ?round1
 case ok1 => exact ⟨Nat.zero_le _, fun i hi => by omega⟩
 case env1 => exact (Env.le_consE rfl (by rfl) Env.le_nil)
 case round1 =>
  rintro k I a w hok hs
  obtain ⟨hk, hall⟩ := hok
  refine wp_seq <| wp_seq <| St.region <| hs.m fun hs => hs.m fun hs => ?_
  refine hs.o ((by first | exact ok_lenM un48 .tt | exact ok_len un48 .tt | exact ok_lenV un48 .tt)) fun hs => ?_
  refine hs.o (ok_lss .tt .tt) fun hs => wpList_nil <| then_n ?_
  refine hs.cond .tt (fun hb1 => ?_) (fun hb1 => ?_)
  ·try simp only [B] at hb1
   refine wp_skip <| then_n <| wp_seq <| wp_block <| wp_seq <| hs.dk <| .o (ok_move .tt) <| .o (ok_move .tt) ?_
   refine .o ((by first | exact ok_idxN un48 ty94 .tt .tt (fun _ => by exact hb1) | exact ok_idxM un48 ty94 .tt .tt (fun _ => by exact hb1) | exact ok_idx un48 ty94 .tt .tt (fun _ => by exact hb1))) ?_
   refine .o (ok_fieldP fd94_0 rfl .tt) <| .o (ok_load1 ty3 .tt) <| .o (ok_move .tt) <| .o (ok_eqi .tt .tt) <| .o (ok_move .tt) <| .q .T (ok_move .tt) <| .q .T (ok_move .tt) ?_
   refine .q .T ((by first | exact ok_idxN un48 ty94 .ag .ag (fun hg => by exact hb1) | exact ok_idxM un48 ty94 .ag .ag (fun hg => by exact hb1) | exact ok_idx un48 ty94 .ag .ag (fun hg => by exact hb1))) ?_
   refine .q .T (ok_fieldP fd94_1 rfl .ag) ?_
   refine .q .T ((by first | exact ok_loadA ty67 .ag rfl | exact ok_loadS ty67 .ag rfl)) ?_
   refine .q .T ((by first | exact ok_loadA ty67 .tt rfl | exact ok_loadS ty67 .tt rfl)) ?_
   refine .q .T (ok_eqS [_, _] [_, _] eqt67 rfl rfl .ag .ag) ?_
   refine .o (ok_and .tt .pc .c) <| RunK.nil ?_
   intro I a w hs
   refine then_n ?_
   refine hs.cond .tt (fun hb2 => ?_) (fun hb2 => ?_)
   ·rw [at_test] at hb2
    refine wp_seq <| St.region <| hs.m fun hs => hs.m fun hs => ?_
    refine hs.o ((by first | exact ok_idxN un48 ty94 .tt .tt (fun _ => by exact hb1) | exact ok_idxM un48 ty94 .tt .tt (fun _ => by exact hb1) | exact ok_idx un48 ty94 .tt .tt (fun _ => by exact hb1))) fun hs => ?_
    refine hs.o ((by first | exact ok_loadA ty94 .tt rfl | exact ok_loadS ty94 .tt rfl)) fun hs => ?_
    refine hs.storeB 0 ty94 .tt .tt rfl (by first | rfl | assumption) rfl fun a w hs => ?_
    refine hs.sc fun hs => wpList_nil <| then_n <| wp_ret <| block_r <| then_r <| then_r <| block_r <| then_r ?_
    refine hs.ret rfl (.cons (.s 0 ty94 rfl rfl (by first | rfl | assumption)) (.cons (.t rfl) ResL.nil)) ?_
    exact (by rw [atV_hit hb1 hall hb2]; rfl)
   ·rw [at_test] at hb2
    refine wp_skip <| block_n <| then_n <| St.region <| hs.m fun hs => ?_
    refine hs.o (ok_add .tt .c (fun _ => by omega)) fun hs => ?_
    refine hs.s fun hs => wpList_nil <| then_n ?_
    refine hs.again (k + 1) ?mu1 ?ok1001 (by rfl) ?env1001 (by repeat (first | exact Env.le_rfl | refine Env.le_push rfl ?_))
    case mu1 => omega
    case ok1001 => exact ⟨hb1, fun i h1 => by rcases Nat.lt_succ_iff_lt_or_eq.1 h1 with h | h; exact hall i h; rw [h]; exact hb2⟩
    case env1001 => exact (Env.le_consE rfl (by first | rfl | (congr 1; done)) Env.le_nil)
  ·try simp only [B] at hb1
   refine wp_exit <| then_x <| then_x <| block_hit <| then_n <| wp_seq <| St.region <| hs.o (ok_build (l0 := [AV.val (.int .i64 0), AV.val (.int .i64 0), AV.val (.int .i64 0), AV.val (.int .i64 0), AV.val (.int .i64 0), AV.val (.int .i64 0), AV.rows 3 []]) ty94 fk94 zc94 rfl Parts.nil) fun hs => ?_
   refine hs.storeB 0 ty94 .tt .tt rfl (by first | rfl | assumption) rfl fun a w hs => ?_
   refine hs.sc fun hs => wpList_nil <| then_n <| wp_ret ?_
   refine hs.ret rfl (.cons (.s 0 ty94 rfl rfl (by first | rfl | assumption)) (.cons (.t rfl) ResL.nil)) ?_
   exact (by rw [atV_none (by omega) hall]; rfl)

set_option maxHeartbeats 4000000 in
theorem c_spec_l43Same (u v : Ver) :
    Fn Tryz.prog 55 [u.av, v.av] (AV.bool (verIs u v)) := by
 refine Fn.intro 66 Tryz.func55 rfl Tryz.ntmps55 rfl (by kernel_rfl) (fun W I a hs => ?_)
 have lens : u.deps.length ≤ 9223372036854775807 ∧ v.deps.length ≤ 9223372036854775807 := by
    obtain ⟨cs, _, hc⟩ := hs.env 0 _ rfl
    obtain ⟨u1, _, h1, _⟩ := hc.get (i := 6) rfl
    obtain ⟨cs2, _, hc2⟩ := hs.env 1 _ rfl
    obtain ⟨u2, _, h2, _⟩ := hc2.get (i := 6) rfl
    exact ⟨rows_le h1, rows_le h2⟩
 refine wp_seq <| St.region <| hs.o (ok_boxP .tt) fun hs => hs.o (ok_boxP .tt) fun hs => hs.sc fun hs => wpList_nil <| then_n <| wp_seq <| wp_seq <| St.region <| hs.o (ok_fieldP fd94_0 rfl .tt) fun hs => hs.o (ok_load1 ty3 .tt) fun hs => hs.o (ok_fieldP fd94_0 rfl .tt) fun hs => hs.o (ok_load1 ty3 .tt) fun hs => hs.o (ok_nei .tt .tt) fun hs => hs.m fun hs => hs.q .F (ok_fieldP fd94_1 rfl .tt) fun hs => ?_
 refine hs.q .F ((by first | exact ok_loadA ty67 .ag rfl | exact ok_loadS ty67 .ag rfl)) fun hs => ?_
 refine hs.q .F (ok_fieldP fd94_1 rfl .tt) fun hs => ?_
 refine hs.q .F ((by first | exact ok_loadA ty67 .ag rfl | exact ok_loadS ty67 .ag rfl)) fun hs => ?_
 refine hs.q .F (ok_neS [_, _] [_, _] eqt67 rfl rfl .ag .ag) fun hs => ?_
 refine hs.o (ok_or .tt .c .pc) fun hs => hs.m fun hs => hs.q .F (ok_fieldP fd94_2 rfl .tt) fun hs => hs.q .F (ok_load1 ty3 .ag) fun hs => ?_
 refine hs.q .F (ok_fieldP fd94_2 rfl .tt) fun hs => hs.q .F (ok_load1 ty3 .ag) fun hs => ?_
 refine hs.q .F (ok_nei .ag .ag) fun hs => ?_
 refine hs.o (ok_or .tt .c .pc) fun hs => hs.m fun hs => hs.q .F (ok_fieldP fd94_3 rfl .tt) fun hs => hs.q .F (ok_load1 ty3 .ag) fun hs => ?_
 refine hs.q .F (ok_fieldP fd94_3 rfl .tt) fun hs => hs.q .F (ok_load1 ty3 .ag) fun hs => ?_
 refine hs.q .F (ok_nei .ag .ag) fun hs => ?_
 refine hs.o (ok_or .tt .c .pc) fun hs => hs.m fun hs => hs.q .F (ok_fieldP fd94_4 rfl .tt) fun hs => hs.q .F (ok_load1 ty3 .ag) fun hs => ?_
 refine hs.q .F (ok_fieldP fd94_4 rfl .tt) fun hs => hs.q .F (ok_load1 ty3 .ag) fun hs => ?_
 refine hs.q .F (ok_nei .ag .ag) fun hs => ?_
 refine hs.o (ok_or .tt .c .pc) fun hs => hs.m fun hs => hs.q .F (ok_fieldP fd94_5 rfl .tt) fun hs => hs.q .F (ok_load1 ty65 .ag) fun hs => ?_
 refine hs.q .F ((by first | exact ok_lenM un65 .ag | exact ok_len un65 .ag | exact ok_lenV un65 .ag)) fun hs => ?_
 refine hs.q .F (ok_fieldP fd94_5 rfl .tt) fun hs => hs.q .F (ok_load1 ty65 .ag) fun hs => ?_
 refine hs.q .F ((by first | exact ok_lenM un65 .ag | exact ok_len un65 .ag | exact ok_lenV un65 .ag)) fun hs => ?_
 refine hs.q .F (ok_nei .ag .ag) fun hs => ?_
 refine hs.o (ok_or .tt .c .pc) fun hs => wpList_nil <| then_n ?_
 refine hs.cond .tt (fun hb1 => ?_) (fun hb1 => ?_)
 ·replace hb1 : sameHead u v = false := by unfold sameHead; rw [hb1]; rfl
  refine wp_seq <| St.region <| hs.sc fun hs => wpList_nil <| then_n <| wp_ret <| then_r <| hs.ret rfl (.cons (.t rfl) ResL.nil) ?_
  exact ret_bool (by rw [verIs_eq, hb1]; rfl)
 ·replace hb1 : sameHead u v = true := by unfold sameHead; rw [hb1]; rfl
  refine wp_skip <| then_n <| wp_seq <| wp_seq <| St.region <| hs.sc fun hs => wpList_nil <| then_n <| wp_block ?_
  refine St.loopS (σ := Nat) (4 :: 5 :: 48 :: 49 :: 50 :: 51 :: 52 :: 53 :: 54 :: 55 :: 56 :: 57 :: 58 :: 59 :: 60 :: 61 :: 62 :: 63 :: 64 :: 65 :: []) ⟨fun k => [(5, AV.int k)], fun k => [], fun k => k ≤ u.deps.length ∧ ∀ i, i < k → (sameDep u v) i = true⟩ (fun k => u.deps.length - k) 0 hs rfl ?ok1 ?env1 ?round1
  case ok1 => exact ⟨Nat.zero_le _, fun i hi => by omega⟩
  case env1 => exact (Env.le_consE rfl (by rfl) Env.le_nil)
  case round1 =>
   rintro k I a w hok hs
   obtain ⟨hk_k, hall⟩ := hok
   refine wp_seq <| wp_seq <| St.region <| hs.m fun hs => hs.o (ok_fieldP fd94_5 rfl .tt) fun hs => hs.o (ok_load1 ty65 .tt) fun hs => ?_
   refine hs.o ((by first | exact ok_lenM un65 .tt | exact ok_len un65 .tt | exact ok_lenV un65 .tt)) fun hs => ?_
   refine hs.o (ok_lss .tt .tt) fun hs => wpList_nil <| then_n ?_
   refine hs.cond .tt (fun hb2 => ?_) (fun hb2 => ?_)
   ·try simp only [B] at hb2
    refine wp_skip <| then_n <| wp_seq <| wp_block <| wp_seq <| hs.dk <| .o (ok_fieldP fd94_5 rfl .tt) <| .o (ok_load1 ty65 .tt) <| .o (ok_move .tt) ?_
    refine .o ((by first | exact ok_idxN un65 ty74 .tt .tt (fun _ => by exact hb2) | exact ok_idxM un65 ty74 .tt .tt (fun _ => by exact hb2) | exact ok_idx un65 ty74 .tt .tt (fun _ => by exact hb2))) ?_
    refine .o ((by first | exact ok_loadA ty74 .tt rfl | exact ok_loadS ty74 .tt rfl)) ?_
    refine .o (ok_fieldP fd94_5 rfl .tt) <| .o (ok_load1 ty65 .tt) <| .o (ok_move .tt) ?_
    refine .o ((by first | exact ok_idxN un65 ty74 .tt .tt (fun _ => by have := sameHead_len hb1; omega) | exact ok_idxM un65 ty74 .tt .tt (fun _ => by have := sameHead_len hb1; omega) | exact ok_idx un65 ty74 .tt .tt (fun _ => by have := sameHead_len hb1; omega))) ?_
    refine .o ((by first | exact ok_loadA ty74 .tt rfl | exact ok_loadS ty74 .tt rfl)) ?_
    refine .o (ok_neS [_, _, _] [_, _, _] eqt74 rfl rfl .tt .tt) <| RunK.nil ?_
    intro I a w hs
    refine then_n ?_
    refine hs.cond .tt (fun hb3 => ?_) (fun hb3 => ?_)
    ·rw [deps_neq] at hb3; replace hb3 := nt hb3
     refine wp_seq <| St.region <| hs.sc fun hs => wpList_nil <| then_n <| wp_ret <| block_r <| then_r <| then_r <| block_r <| then_r <| hs.ret rfl (.cons (.t rfl) ResL.nil) ?_
     exact ret_bool (by rw [verIs_eq, allN_false (f := sameDep u v) hb2 hb3]; simp)
    ·rw [deps_neq] at hb3; replace hb3 := nf hb3
     refine wp_skip <| block_n <| then_n <| St.region <| hs.m fun hs => ?_
     refine hs.o (ok_add .tt .c (fun _ => by omega)) fun hs => ?_
     refine hs.s fun hs => wpList_nil <| then_n ?_
     refine hs.again (k + 1) ?mu1 ?ok1001 (by rfl) ?env1001 (by repeat (first | exact Env.le_rfl | refine Env.le_push rfl ?_))
     case mu1 => omega
     case ok1001 => exact ⟨by omega, allN_next hall hb3⟩
     case env1001 => exact (Env.le_consE rfl (by first | rfl | (congr 1; done)) Env.le_nil)
   ·try simp only [B] at hb2
    refine wp_exit <| then_x <| then_x <| block_hit <| then_n <| wp_seq <| St.region <| hs.sc fun hs => wpList_nil <| then_n <| wp_ret <| hs.ret rfl (.cons (.t rfl) ResL.nil) ?_
    exact ret_bool (by rw [verIs_eq, hb1, allN_true hall (by omega)]; rfl)

end Go.Proofs.YtlppgilifnkapaaGreat
