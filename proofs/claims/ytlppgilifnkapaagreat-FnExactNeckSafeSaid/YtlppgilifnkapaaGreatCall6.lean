/- Walks: what all calls of a run saw. -/
import Derived.Test.YtlppgilifnkapaaGreatCall4
import Derived.Test.YtlppgilifnkapaaGreatCall5
set_option linter.unusedVariables false
set_option linter.unusedSimpArgs false
set_option maxRecDepth 100000
namespace Go.Proofs.YtlppgilifnkapaaGreat
open Go Go.RowKit


theorem neckOk_parts {x : Neck} (h : neckOk x = true) : (0 ≤ x.time ∧ x.time ≤ 99999) ∧ x.servers.length = 4 ∧ x.radio.length ≤ 60 ∧ x.seen.length = 2 ∧ (∀ q ∈ x.calls, callOk q x.time = true) ∧ x.calls.length ≤ 20 ∧ ∀ l ∈ x.seen, depsOk l = true := by
  have h0 := h
  simp only [neckOk, Bool.and_eq_true] at h
  have hh : neckHead x = true := h.1.1.1.1
  have ht := neckHead_time hh
  have hc : callsOk x.calls x.time = true := h.2
  simp only [neckHead, Bool.not_eq_true', Bool.or_eq_false_iff] at hh
  have e1 := hh.1.1.2
  have e2 := hh.1.2
  have e3 := hh.2
  simp at e1 e2 e3
  refine ⟨ht, by omega, by omega, by omega, fun q hq => ?_, ?_, fun l hl => ?_⟩
  · obtain ⟨k, hk, rfl⟩ := mem_elt hq
    exact callsOk_all hc hk
  · unfold callsOk at hc
    rw [Bool.and_eq_true, decide_eq_true_eq] at hc; exact hc.2
  · have := h.1.2
    rw [seen_allN, allN_iff] at this
    obtain ⟨k, hk, rfl⟩ := mem_elt hl
    exact this k hk
theorem callOk_end {q : Call} {t : Int} (h : callOk q t = true) (ht : 0 ≤ t) : 0 ≤ q.end_ ∧ q.end_ ≤ t ∧ 1 ≤ q.begin_ ∧ q.begin_ ≤ t ∧ 0 ≤ q.client ∧ q.client ≤ 1 := by
  have hp := callOk_parts h
  simp only [callOk, Bool.and_eq_true] at h
  have he := h.2
  have hcl := hp.2.2.2.1
  simp [clientB, inB] at hcl
  unfold callEnd at he
  by_cases h0 : q.end_ = 0
  · omega
  · rw [if_neg h0] at he
    simp [inB] at he; omega
theorem next_hit {x : Neck} {k j : Nat} (h1 : k + 1 ≤ j) (hj : j < x.calls.length) (hall : ∀ i, k + 1 ≤ i → i < j → (elt x.calls i).client ≠ (elt x.calls k).client) (he : (elt x.calls j).client = (elt x.calls k).client) : nextSeen x k = (elt x.calls j).ctx := by
  have hd : ∀ i, elt (x.calls.drop (k + 1)) i = elt x.calls (k + 1 + i) := fun i => by simp [elt, List.getD_eq_getElem?_getD, List.getElem?_drop]
  have e : nextI x.calls k (elt x.calls k).client = ((j - (k + 1) : Nat) : Int) := by
    unfold nextI
    refine idx_hit (by simp; omega) (fun i hi => ?_) ?_
    · rw [hd]
      have := hall (k + 1 + i) (by omega) (by omega)
      simpa [sameClient] using this
    · rw [hd, show k + 1 + (j - (k + 1)) = j by omega]; simpa [sameClient] using he
  unfold nextSeen
  rw [e, if_pos (by omega)]
  simp only [Int.toNat_natCast]
  rw [show k + 1 + (j - (k + 1)) = j by omega]
theorem next_none {x : Neck} {k : Nat} (hall : ∀ i, k + 1 ≤ i → i < x.calls.length → (elt x.calls i).client ≠ (elt x.calls k).client) : nextSeen x k = elt x.seen (elt x.calls k).client.toNat := by
  have hd : ∀ i, elt (x.calls.drop (k + 1)) i = elt x.calls (k + 1 + i) := fun i => by simp [elt, List.getD_eq_getElem?_getD, List.getElem?_drop]
  have e : nextI x.calls k (elt x.calls k).client = -1 := by
    unfold nextI
    refine idx_none (k := (x.calls.drop (k + 1)).length) (Nat.le_refl _) fun i hi => ?_
    rw [hd]
    simp at hi
    have := hall (k + 1 + i) (by omega) (by omega)
    simpa [sameClient] using this
  unfold nextSeen
  rw [e, if_neg (by omega)]
theorem nextSeen_pos {x : Neck} {k : Nat} (h : 0 ≤ idxI (sameClient (elt x.calls k).client) (x.calls.drop (k + 1))) : (elt x.calls ((k : Int) + 1 + idxI (sameClient (elt x.calls k).client) (x.calls.drop (k + 1))).toNat).ctx = nextSeen x k := by
  unfold nextSeen nextI
  rw [if_pos h, show ((k : Int) + 1 + idxI (sameClient (elt x.calls k).client) (x.calls.drop (k + 1))).toNat = k + 1 + (idxI (sameClient (elt x.calls k).client) (x.calls.drop (k + 1))).toNat by omega]
theorem nextSeen_neg {x : Neck} {k : Nat} (h : idxI (sameClient (elt x.calls k).client) (x.calls.drop (k + 1)) < 0) : elt x.seen (elt x.calls k).client.toNat = nextSeen x k := by
  unfold nextSeen nextI
  rw [if_neg (by omega)]
theorem saw_test1 (x : Neck) (k : Nat) (h : (decide (0 < (elt x.calls k).end_) && !currentB (elt x.calls k)) = true) : sawAt x k = false := by
  unfold sawAt; rw [h]; rfl
theorem saw_test2 (x : Neck) (k : Nat) (h : (decide (0 < (elt x.calls k).end_) && !currentB (elt x.calls k)) = false) (h2 : depsSame (sawD (elt x.calls k)) (nextSeen x k) = true) : sawAt x k = true := by
  unfold sawAt; rw [h, h2]; rfl
theorem saw_test3 (x : Neck) (k : Nat) (h2 : depsSame (sawD (elt x.calls k)) (nextSeen x k) = false) : sawAt x k = false := by
  unfold sawAt; rw [h2]; simp
theorem sawD_len {q : Call} {t : Int} (h : callOk q t = true) : (sawD q).length ≤ 6 := by
  have hp := callOk_parts h
  unfold sawD
  split
  · exact depsOk_len6 hp.1
  · rename_i he
    split
    · rename_i hk; exact depsOk_len6 (depsOk_put hp.1 (saw_dep h hk he))
    · exact depsOk_len6 (saw_fold hp.1 hp.2.1).1

set_option maxHeartbeats 4000000 in
theorem c_impl_Call_saw (q : Call) (t : Int) (hq : callOk q t = true) :
    Fn Tryz.prog 50 [q.av] (depsAV (sawD q)) := by
 refine Fn.intro 45 Tryz.func50 rfl Tryz.ntmps50 rfl (by kernel_rfl) (fun W I a hs => ?_)
 have lens : q.keys.length ≤ 9223372036854775807 ∧ q.got.length ≤ 9223372036854775807 ∧ q.needs.length ≤ 9223372036854775807 := by
    obtain ⟨cs, _, hc⟩ := hs.env 0 _ rfl
    obtain ⟨u1, _, h1, _⟩ := hc.get (i := 3) rfl
    obtain ⟨u2, _, h2, _⟩ := hc.get (i := 11) rfl
    obtain ⟨u3, _, h3, _⟩ := hc.get (i := 12) rfl
    exact ⟨rows_le h1, rows_le h2, rows_le h3⟩
 have hp := callOk_parts hq
 have hc6 := depsOk_len6 hp.1
 refine wp_seq <| St.region <| hs.o (ok_boxP .tt) fun hs => hs.sc fun hs => wpList_nil <| then_n <| wp_seq <| St.region <| hs.o (ok_fieldP fd70_5 rfl .tt) fun hs => hs.o (ok_load1 ty65 .tt) fun hs => ?_
 refine hs.o (ok_call (c_impl_cloneDeps q.ctx (by omega)) (args_cons .r args_nil)) fun hs => ?_
 refine hs.s fun hs => wpList_nil <| then_n <| wp_seq <| wp_seq <| St.region <| hs.o (ok_fieldP fd70_7 rfl .tt) fun hs => hs.o (ok_load1 ty3 .tt) fun hs => hs.o (ok_eqi .tt .c) fun hs => wpList_nil <| then_n ?_
 refine hs.cond .tt (fun hb1 => ?_) (fun hb1 => ?_)
 ·try simp only [B] at hb1
  refine wp_seq <| St.region <| hs.m fun hs => hs.s fun hs => wpList_nil <| then_n <| wp_ret <| then_r ?_
  refine hs.ret rfl (.cons (by first | exact .t rfl | exact .nil rfl) ResL.nil) ?_
  exact congrArg depsAV (by unfold sawD; rw [if_pos hb1])
 ·try simp only [B] at hb1
  refine wp_skip <| then_n <| wp_seq <| wp_seq <| St.region <| hs.o (ok_fieldP fd70_2 rfl .tt) fun hs => hs.o (ok_load1 ty3 .tt) fun hs => hs.o (ok_eqi .tt .c) fun hs => wpList_nil <| then_n ?_
  refine hs.cond .tt (fun hb2 => ?_) (fun hb2 => ?_)
  ·try simp only [B] at hb2
   refine wp_seq <| hs.dk <| .o (ok_move .tt) <| .o (ok_fieldP fd70_3 rfl .tt) <| .o (ok_load1 ty64 .tt) ?_
   refine .o ((by first | exact ok_idxN un64 ty3 .tt .c (fun _ => by have := keysOk_put hp.2.2.1 hb2; omega) | exact ok_idxM un64 ty3 .tt .c (fun _ => by have := keysOk_put hp.2.2.1 hb2; omega) | exact ok_idx un64 ty3 .tt .c (fun _ => by have := keysOk_put hp.2.2.1 hb2; omega))) ?_
   refine .o (ok_load1 ty3 .tt) <| .o (ok_fieldP fd70_9 rfl .tt) ?_
   refine .o ((by first | exact ok_loadA ty67 .tt rfl | exact ok_loadS ty67 .tt rfl)) ?_
   refine .o (ok_build (l0 := [AV.val (.int .i64 0), AV.val (.int .i64 0), AV.val (.int .i64 0)]) ty74 fk74 zc74 rfl (Parts.c sp74_0 rfl .tt (by first | exact one_val rfl | exact one_rows | exact one_ptr | exact one_fn) (Parts.s sp74_1 rfl rfl .tt Parts.nil))) ?_
   refine .o (ok_call (c_impl_put _ ⟨elt q.keys 0, q.stamp⟩ hp.1) (args_cons .r (args_cons .tt args_nil))) ?_
   refine .o (ok_assign .tt) <| RunK.nil ?_
   intro I a w hs
   refine then_n <| wp_ret <| then_r ?_
   refine hs.ret rfl (.cons (by first | exact .t rfl | exact .nil rfl) ResL.nil) ?_
   exact congrArg depsAV (by unfold sawD; rw [if_neg hb1, if_pos hb2])
  ·try simp only [B] at hb2
   refine wp_skip <| then_n <| wp_seq <| wp_seq <| St.region <| hs.o (ok_fieldP fd70_10 rfl .tt) fun hs => hs.o (ok_load1 ty68 .tt) fun hs => ?_
   refine hs.o ((by first | exact ok_lenM un68 .tt | exact ok_len un68 .tt | exact ok_lenV un68 .tt)) fun hs => ?_
   refine hs.mc fun hs => wpList_nil <| then_n <| wp_block ?_
   refine St.loopS (σ := Nat) (3 :: 5 :: 28 :: 29 :: 30 :: 31 :: 32 :: 33 :: 34 :: 35 :: 36 :: 37 :: 38 :: 39 :: 40 :: 41 :: 42 :: 43 :: []) ⟨fun k => [(28, AV.int k), (3, depsAV ((q.got.take k).foldl sawStep q.ctx))], fun k => [], fun k => k ≤ q.got.length⟩ (fun k => q.got.length - k) 0 hs rfl ?ok1 ?env1 ?round1
   case ok1 => exact Nat.zero_le _
   case env1 => exact (Env.le_consE rfl (by rfl) (Env.le_consE rfl (by rfl) Env.le_nil))
   case round1 =>
    rintro k I a w hok hs
    have hk : k ≤ q.got.length := hok
    refine wp_seq <| St.region <| hs.o (ok_lss .tt .tt) fun hs => wpList_nil <| then_n <| wp_seq ?_
    refine hs.cond .tt (fun hb3 => ?_) (fun hb3 => ?_)
    ·try simp only [B] at hb3
     refine wp_skip <| then_n <| wp_seq <| wp_block <| wp_seq <| St.region ?_
     refine hs.o ((by first | exact ok_idxN un68 ty140 .tt .tt (fun _ => by exact hb3) | exact ok_idxM un68 ty140 .tt .tt (fun _ => by exact hb3) | exact ok_idx un68 ty140 .tt .tt (fun _ => by exact hb3))) fun hs => ?_
     refine hs.o ((by first | exact ok_loadA ty140 .tt rfl | exact ok_loadS ty140 .tt rfl)) fun hs => ?_
     refine hs.alloc rfl ty140 zc140 fun b5 I a w hs => ?_
     refine hs.storeB 0 ty140 .tt .tt rfl (by first | rfl | assumption) rfl fun a w hs => ?_
     obtain ⟨I, hs, hf⟩ := hs.freezeBox 0 rfl
     have hs := hs.upd (t := 5) rfl hf; clear hf
     refine wpList_nil <| then_n <| wp_seq <| St.region <| hs.o (ok_fieldP fd140_1 rfl .tt) fun hs => hs.o (ok_load1 ty4 .tt) fun hs => wpList_nil <| then_n ?_
     refine hs.cond .tt (fun hb4 => ?_) (fun hb4 => ?_)
     ·try simp only [B] at hb4
      refine hs.dk <| .o (ok_move .tt) <| .o (ok_fieldP fd140_2 rfl .tt) <| .o (ok_fieldP fd94_5 rfl .tt) <| .o (ok_load1 ty65 .tt) ?_
      refine .o (ok_call (c_impl_join _ _ (saw_fold hp.1 (goods_take hp.2.1 k)).1 (ansGood_deps (hp.2.1 _ (elt_mem hb3)))) (args_cons .r (args_cons .r args_nil))) ?_
      refine .o (ok_fieldP fd140_2 rfl .tt) ?_
      refine .o ((by first | exact ok_loadA ty94 .tt rfl | exact ok_loadS ty94 .tt rfl)) ?_
      refine .o (ok_call (c_impl_Ver_dep ..) (args_cons .tt args_nil)) ?_
      refine .o (ok_call (c_impl_put _ _ (depsOk_join (saw_fold hp.1 (goods_take hp.2.1 k)).1 fun d hd => depsOk_all (ansGood_deps (hp.2.1 _ (elt_mem hb3))) hd)) (args_cons .r (args_cons .tt args_nil))) ?_
      refine .o (ok_assign .tt) <| RunK.nil ?_
      intro I a w hs
      refine block_n <| then_n <| St.region ?_
      refine hs.o (ok_add .tt .c (fun _ => by omega)) fun hs => ?_
      refine hs.m fun hs => wpList_nil <| then_n ?_
      have hs := hs.drop 0
      refine hs.again (k + 1) ?mu1 ?ok1001 (by rfl) ?env1001 (by repeat (first | exact Env.le_rfl | refine Env.le_push rfl ?_))
      case mu1 => omega
      case ok1001 => exact hb3
      case env1001 => exact (Env.le_consE rfl (by rfl) (Env.le_consE rfl (by exact congrArg depsAV (by rw [fold_take hb3]; unfold sawStep; rw [hb4]; rfl)) Env.le_nil))
     ·try simp only [B] at hb4
      refine wp_skip <| block_n <| then_n <| St.region ?_
      refine hs.o (ok_add .tt .c (fun _ => by omega)) fun hs => ?_
      refine hs.m fun hs => wpList_nil <| then_n ?_
      have hs := hs.drop 0
      refine hs.again (k + 1) ?mu2 ?ok1002 (by rfl) ?env1002 (by repeat (first | exact Env.le_rfl | refine Env.le_push rfl ?_))
      case mu2 => omega
      case ok1002 => exact hb3
      case env1002 => exact (Env.le_consE rfl (by rfl) (Env.le_consE rfl (by exact congrArg depsAV (by rw [fold_take hb3]; unfold sawStep; rw [hb4]; rfl)) Env.le_nil))
    ·try simp only [B] at hb3
     refine wp_exit <| then_x <| then_x <| block_hit <| then_n <| wp_seq <| St.region <| hs.m fun hs => hs.s fun hs => wpList_nil <| then_n <| wp_ret ?_
     refine hs.ret rfl (.cons (by first | exact .t rfl | exact .nil rfl) ResL.nil) ?_
     exact congrArg depsAV (by rw [List.take_of_length_le (by omega)]; unfold sawD; rw [if_neg hb1, if_neg hb2])

theorem c_impl_CallsOk_1 (d q : Call) :
    Fn Tryz.prog 48 [d.av, AV.ptr q.cells] (AV.bool (sameClient q.client d)) := by
 refine Fn.intro 9 Tryz.func48 rfl Tryz.ntmps48 rfl (by kernel_rfl) (fun W I a hs => ?_)
 refine wp_seq <| St.region <| hs.o (ok_boxP .tt) fun hs => hs.sc fun hs => wpList_nil <| then_n <| wp_seq <| St.region <| hs.o (ok_fieldP fd70_0 rfl .tt) fun hs => hs.o (ok_load1 ty3 .tt) fun hs => hs.o (ok_fieldP fd70_0 rfl .tt) fun hs => hs.o (ok_load1 ty3 .tt) fun hs => hs.o (ok_eqi .tt .tt) fun hs => hs.s fun hs => wpList_nil <| then_n <| wp_ret <| hs.ret rfl (.cons (.t rfl) ResL.nil) ?_
 rfl

set_option maxHeartbeats 4000000 in
theorem c_impl_CallsOk (x : Neck) (hf : x.Fit) (hl : x.calls.length ≤ 1048576) :
    Fn Tryz.prog 12 [x.av] (AV.bool (callsSaw x)) := by
 refine Fn.intro 56 Tryz.func12 rfl Tryz.ntmps12 rfl (by kernel_rfl) (fun W I a hs => ?_)
 have lens : x.servers.length ≤ 9223372036854775807 ∧ x.radio.length ≤ 9223372036854775807 ∧ x.calls.length ≤ 9223372036854775807 ∧ x.seen.length ≤ 9223372036854775807 := by
    obtain ⟨cs, _, hc⟩ := hs.env 0 _ rfl
    obtain ⟨u1, _, h1, _⟩ := hc.get (i := 1) rfl
    obtain ⟨u2, _, h2, _⟩ := hc.get (i := 2) rfl
    obtain ⟨u3, _, h3, _⟩ := hc.get (i := 3) rfl
    obtain ⟨u4, _, h4, _⟩ := hc.get (i := 4) rfl
    exact ⟨rows_le h1, rows_le h2, rows_le h3, rows_le h4⟩
 refine wp_seq <| St.region <| hs.o (ok_boxP .tt) fun hs => hs.sc fun hs => wpList_nil <| then_n <| wp_seq <| wp_seq <| St.region ?_
 refine hs.o ((by first | exact ok_loadA ty35 .tt rfl | exact ok_loadS ty35 .tt rfl)) fun hs => ?_
 refine hs.o (ok_call (c_impl_NeckOk _ hf hl) (args_cons .tt args_nil)) fun hs => hs.o (ok_not .tt) fun hs => wpList_nil <| then_n ?_
 refine hs.cond .tt (fun hb1 => ?_) (fun hb1 => ?_)
 ·replace hb1 := nt hb1
  refine wp_seq <| St.region <| hs.sc fun hs => wpList_nil <| then_n <| wp_ret <| then_r <| hs.ret rfl (.cons (.t rfl) ResL.nil) ?_
  exact ret_bool (by unfold callsSaw; rw [hb1]; rfl)
 ·replace hb1 := nf hb1
  refine wp_skip <| then_n <| wp_seq <| wp_seq <| St.region <| hs.o (ok_fieldP fd35_3 rfl .tt) fun hs => hs.o (ok_load1 ty32 .tt) fun hs => ?_
  refine hs.o ((by first | exact ok_lenM un32 .tt | exact ok_len un32 .tt | exact ok_lenV un32 .tt)) fun hs => ?_
  refine hs.mc fun hs => wpList_nil <| then_n <| wp_block ?_
  refine St.loopS (σ := Nat) (2 :: 3 :: 4 :: 5 :: 6 :: 13 :: 14 :: 15 :: 16 :: 17 :: 18 :: 19 :: 20 :: 21 :: 22 :: 23 :: 24 :: 25 :: 26 :: 27 :: 28 :: 29 :: 30 :: 31 :: 32 :: 33 :: 34 :: 35 :: 36 :: 37 :: 38 :: 39 :: 40 :: 41 :: 42 :: 43 :: 44 :: 45 :: 46 :: 47 :: 48 :: 49 :: 50 :: 51 :: 52 :: 53 :: 54 :: 55 :: []) ⟨fun k => [(13, AV.int k)], fun k => [], fun k => k ≤ x.calls.length ∧ ∀ i, i < k → (sawAt x) i = true⟩ (fun k => x.calls.length - k) 0 hs rfl ?ok1 ?env1 ?round1
  case ok1 => exact ⟨Nat.zero_le _, fun i hi => by omega⟩
  case env1 => exact (Env.le_consE rfl (by rfl) Env.le_nil)
  case round1 =>
   rintro k I a w hok hs
   obtain ⟨hk_k, hall⟩ := hok
   refine wp_seq <| St.region <| hs.o (ok_lss .tt .tt) fun hs => wpList_nil <| then_n <| wp_seq ?_
   refine hs.cond .tt (fun hb2 => ?_) (fun hb2 => ?_)
   ·try simp only [B] at hb2
    refine wp_skip <| then_n <| wp_seq <| wp_block <| wp_seq <| St.region <| hs.m fun hs => ?_
    refine hs.o ((by first | exact ok_idxN un32 ty70 .tt .tt (fun _ => by exact hb2) | exact ok_idxM un32 ty70 .tt .tt (fun _ => by exact hb2) | exact ok_idx un32 ty70 .tt .tt (fun _ => by exact hb2))) fun hs => ?_
    refine hs.o ((by first | exact ok_loadA ty70 .tt rfl | exact ok_loadS ty70 .tt rfl)) fun hs => ?_
    refine hs.alloc rfl ty70 zc70 fun b4 I a w hs => hs.s fun hs => ?_
    refine hs.storeB 0 ty70 .tt .tt rfl (by first | rfl | assumption) rfl fun a w hs => ?_
    obtain ⟨I, hs, hf⟩ := hs.freezeBox 0 rfl
    have hs := hs.upd (t := 4) rfl hf; clear hf
    refine wpList_nil <| then_n <| wp_seq <| wp_seq <| St.region ?_
    have hp := neckOk_parts hb1
    have hck := hp.2.2.2.2.1 _ (elt_mem hb2)
    have hcp := callOk_parts hck
    have hce := callOk_end hck hp.1.1
    refine hs.o (ok_fieldP fd70_7 rfl .tt) fun hs => hs.o (ok_load1 ty3 .tt) fun hs => hs.o (ok_gtr .tt .c) fun hs => hs.m fun hs => ?_
    refine hs.q .T ((by first | exact ok_loadA ty70 .tt rfl | exact ok_loadS ty70 .tt rfl)) fun hs => ?_
    refine hs.q .T (ok_call (c_impl_Call_current _ hcp.1 hcp.2.1) (args_cons .ag args_nil)) fun hs => ?_
    refine hs.q .T (ok_not .ag) fun hs => ?_
    refine hs.o (ok_and .tt .pc .c) fun hs => wpList_nil <| then_n ?_
    refine hs.cond .tt (fun hb3 => ?_) (fun hb3 => ?_)
    ·skip
     refine wp_seq <| St.region <| hs.sc fun hs => wpList_nil <| then_n <| wp_ret <| then_r <| block_r <| then_r <| then_r <| block_r <| then_r <| hs.ret rfl (.cons (.t rfl) ResL.nil) ?_
     exact ret_bool (by unfold callsSaw; rw [allN_false (f := sawAt x) hb2 (saw_test1 x k hb3)]; simp)
    ·skip
     refine wp_skip <| then_n <| wp_seq <| St.region <| hs.o (ok_fieldP fd35_4 rfl .tt) fun hs => hs.o (ok_load1 ty33 .tt) fun hs => hs.o (ok_fieldP fd70_0 rfl .tt) fun hs => hs.o (ok_load1 ty3 .tt) fun hs => ?_
     refine hs.o ((by first | exact ok_idxN un33 ty65 .tt .tt (fun _ => by omega) | exact ok_idxM un33 ty65 .tt .tt (fun _ => by omega) | exact ok_idx un33 ty65 .tt .tt (fun _ => by omega))) fun hs => ?_
     refine hs.o (ok_load1 ty65 .tt) fun hs => hs.s fun hs => wpList_nil <| then_n <| wp_seq <| wp_seq <| St.region <| hs.o (ok_fieldP fd35_3 rfl .tt) fun hs => hs.o (ok_load1 ty32 .tt) fun hs => hs.m fun hs => ?_
     refine hs.o (ok_add .tt .c (fun _ => by omega)) fun hs => ?_
     refine hs.o (ok_slL un32 ty70 .r .tt (fun _ => by rw [List.length_map]; omega)) fun hs => ?_
     rw [← List.map_drop, show ((k : Int) + 1).toNat = k + 1 by omega] at hs
     refine hs.o (ok_makeFunc (args_cons .tt args_nil)) fun hs => ?_
     refine hs.o (ok_call (c_slices_IndexFunc_impl_Call_impl_Call (x.calls.drop (k + 1)) (sameClient (elt x.calls k).client) _ (fun d _ => Fn.val (c_impl_CallsOk_1 d (elt x.calls k)))) (args_cons .r (args_cons .tt args_nil))) fun hs => ?_
     refine hs.s fun hs => wpList_nil <| then_n <| wp_seq <| St.region <| hs.m fun hs => hs.o (ok_geq .tt .c) fun hs => wpList_nil <| then_n ?_
     refine hs.cond .tt (fun hb4 => ?_) (fun hb4 => ?_)
     ·try simp only [B] at hb4
      refine St.region <| hs.o (ok_fieldP fd35_3 rfl .tt) fun hs => hs.o (ok_load1 ty32 .tt) fun hs => hs.m fun hs => ?_
      refine hs.o (ok_add .tt .c (fun _ => by omega)) fun hs => ?_
      refine hs.m fun hs => ?_
      refine hs.o (ok_add .tt .tt (fun _ => by have := idxI_lt (sameClient (elt x.calls k).client) (x.calls.drop (k + 1)); simp at this; change 0 ≤ nextI x.calls k (elt x.calls k).client at hb4; unfold nextI at *; omega)) fun hs => ?_
      refine hs.o ((by first | exact ok_idxN un32 ty70 .tt .tt (fun _ => by have := idxI_lt (sameClient (elt x.calls k).client) (x.calls.drop (k + 1)); simp at this; change 0 ≤ nextI x.calls k (elt x.calls k).client at hb4; unfold nextI at *; omega) | exact ok_idxM un32 ty70 .tt .tt (fun _ => by have := idxI_lt (sameClient (elt x.calls k).client) (x.calls.drop (k + 1)); simp at this; change 0 ≤ nextI x.calls k (elt x.calls k).client at hb4; unfold nextI at *; omega) | exact ok_idx un32 ty70 .tt .tt (fun _ => by have := idxI_lt (sameClient (elt x.calls k).client) (x.calls.drop (k + 1)); simp at this; change 0 ≤ nextI x.calls k (elt x.calls k).client at hb4; unfold nextI at *; omega))) fun hs => ?_
      refine hs.o (ok_fieldP fd70_5 rfl .tt) fun hs => hs.o (ok_load1 ty65 .tt) fun hs => hs.s fun hs => wpList_nil <| then_n <| wp_seq <| St.region ?_
      refine hs.o ((by first | exact ok_loadA ty70 .tt rfl | exact ok_loadS ty70 .tt rfl)) fun hs => ?_
      refine hs.o (ok_call (c_impl_Call_saw _ _ hck) (args_cons .tt args_nil)) fun hs => hs.m fun hs => ?_
      refine hs.o (ok_call (c_slices_Equal_impl_Dep_impl_Dep ..) (args_cons .r (args_cons .r args_nil))) fun hs => ?_
      refine hs.o (ok_not .tt) fun hs => wpList_nil <| then_n ?_
      refine hs.cond .tt (fun hb5 => ?_) (fun hb5 => ?_)
      ·replace hb5 := nt hb5; rw [nextSeen_pos hb4] at hb5
       refine wp_seq <| St.region <| hs.sc fun hs => wpList_nil <| then_n <| wp_ret <| block_r <| then_r <| then_r <| block_r <| then_r <| hs.ret rfl (.cons (.t rfl) ResL.nil) ?_
       exact ret_bool (by unfold callsSaw; rw [allN_false (f := sawAt x) hb2 (saw_test3 x k hb5)]; simp)
      ·replace hb5 := nf hb5; rw [nextSeen_pos hb4] at hb5
       refine wp_skip <| block_n <| then_n <| St.region ?_
       refine hs.o (ok_add .tt .c (fun _ => by omega)) fun hs => ?_
       refine hs.m fun hs => wpList_nil <| then_n ?_
       have hs := hs.drop 0
       refine hs.again (k + 1) ?mu1 ?ok1001 (by rfl) ?env1001 (by repeat (first | exact Env.le_rfl | refine Env.le_push rfl ?_))
       case mu1 => omega
       case ok1001 => exact ⟨by omega, allN_next hall (saw_test2 x k hb3 (by first | exact hb5 | exact hb6))⟩
       case env1001 => exact (Env.le_consE rfl (by first | rfl | (congr 1; done)) Env.le_nil)
     ·try simp only [B] at hb4
      refine wp_skip <| then_n <| wp_seq <| St.region ?_
      refine hs.o ((by first | exact ok_loadA ty70 .tt rfl | exact ok_loadS ty70 .tt rfl)) fun hs => ?_
      refine hs.o (ok_call (c_impl_Call_saw _ _ hck) (args_cons .tt args_nil)) fun hs => hs.m fun hs => ?_
      refine hs.o (ok_call (c_slices_Equal_impl_Dep_impl_Dep ..) (args_cons .r (args_cons .r args_nil))) fun hs => ?_
      refine hs.o (ok_not .tt) fun hs => wpList_nil <| then_n ?_
      refine hs.cond .tt (fun hb6 => ?_) (fun hb6 => ?_)
      ·replace hb6 := nt hb6; rw [nextSeen_neg hb4] at hb6
       refine wp_seq <| St.region <| hs.sc fun hs => wpList_nil <| then_n <| wp_ret <| block_r <| then_r <| then_r <| block_r <| then_r <| hs.ret rfl (.cons (.t rfl) ResL.nil) ?_
       exact ret_bool (by unfold callsSaw; rw [allN_false (f := sawAt x) hb2 (saw_test3 x k hb6)]; simp)
      ·replace hb6 := nf hb6; rw [nextSeen_neg hb4] at hb6
       refine wp_skip <| block_n <| then_n <| St.region ?_
       refine hs.o (ok_add .tt .c (fun _ => by omega)) fun hs => ?_
       refine hs.m fun hs => wpList_nil <| then_n ?_
       have hs := hs.drop 0
       refine hs.again (k + 1) ?mu2 ?ok1002 (by rfl) ?env1002 (by repeat (first | exact Env.le_rfl | refine Env.le_push rfl ?_))
       case mu2 => omega
       case ok1002 => exact ⟨by omega, allN_next hall (saw_test2 x k hb3 (by first | exact hb5 | exact hb6))⟩
       case env1002 => exact (Env.le_consE rfl (by first | rfl | (congr 1; done)) Env.le_nil)
   ·try simp only [B] at hb2
    refine wp_exit <| then_x <| then_x <| block_hit <| then_n <| wp_seq <| St.region <| hs.sc fun hs => wpList_nil <| then_n <| wp_ret <| hs.ret rfl (.cons (.t rfl) ResL.nil) ?_
    exact ret_bool (by unfold callsSaw; rw [hb1, allN_true hall (by omega)]; rfl)

set_option maxHeartbeats 4000000 in
theorem c_spec_CallsOk (x : Neck) (hgl : ∀ q ∈ x.calls, q.got.length ≤ 1048576) :
    Fn Tryz.prog 10 [x.av] (AV.bool (callsSaw x)) := by
 refine Fn.intro 84 Tryz.func10 rfl Tryz.ntmps10 rfl (by kernel_rfl) (fun W I a hs => ?_)
 have lens : x.servers.length ≤ 9223372036854775807 ∧ x.radio.length ≤ 9223372036854775807 ∧ x.calls.length ≤ 9223372036854775807 ∧ x.seen.length ≤ 9223372036854775807 := by
    obtain ⟨cs, _, hc⟩ := hs.env 0 _ rfl
    obtain ⟨u1, _, h1, _⟩ := hc.get (i := 1) rfl
    obtain ⟨u2, _, h2, _⟩ := hc.get (i := 2) rfl
    obtain ⟨u3, _, h3, _⟩ := hc.get (i := 3) rfl
    obtain ⟨u4, _, h4, _⟩ := hc.get (i := 4) rfl
    exact ⟨rows_le h1, rows_le h2, rows_le h3, rows_le h4⟩
 refine wp_seq <| St.region <| hs.o (ok_boxP .tt) fun hs => hs.sc fun hs => wpList_nil <| then_n <| wp_seq <| wp_seq <| St.region ?_
 refine hs.o ((by first | exact ok_loadA ty35 .tt rfl | exact ok_loadS ty35 .tt rfl)) fun hs => ?_
 refine hs.o (ok_call (c_spec_NeckOk _ hgl) (args_cons .tt args_nil)) fun hs => hs.o (ok_not .tt) fun hs => wpList_nil <| then_n ?_
 refine hs.cond .tt (fun hb1 => ?_) (fun hb1 => ?_)
 ·replace hb1 := nt hb1
  refine wp_seq <| St.region <| hs.sc fun hs => wpList_nil <| then_n <| wp_ret <| then_r <| hs.ret rfl (.cons (.t rfl) ResL.nil) ?_
  exact ret_bool (by unfold callsSaw; rw [hb1]; rfl)
 ·replace hb1 := nf hb1
  refine wp_skip <| then_n <| wp_seq <| wp_seq <| St.region <| hs.sc fun hs => wpList_nil <| then_n <| wp_block ?_
  refine St.loopS (σ := Nat) (2 :: 3 :: 4 :: 5 :: 6 :: 7 :: 8 :: 12 :: 13 :: 14 :: 15 :: 16 :: 17 :: 18 :: 19 :: 20 :: 21 :: 22 :: 23 :: 24 :: 25 :: 26 :: 27 :: 28 :: 29 :: 30 :: 31 :: 32 :: 33 :: 34 :: 35 :: 36 :: 37 :: 38 :: 39 :: 40 :: 41 :: 42 :: 43 :: 44 :: 45 :: 46 :: 47 :: 48 :: 49 :: 50 :: 51 :: 52 :: 53 :: 54 :: 55 :: 56 :: 57 :: 58 :: 59 :: 60 :: 61 :: 62 :: 63 :: 64 :: 65 :: 66 :: 67 :: 68 :: 69 :: 70 :: 71 :: 72 :: 73 :: 74 :: 75 :: 76 :: 77 :: 78 :: 79 :: 80 :: 81 :: 82 :: 83 :: []) ⟨fun k => [(3, AV.int k)], fun k => [], fun k => k ≤ x.calls.length ∧ ∀ i, i < k → (sawAt x) i = true⟩ (fun k => x.calls.length - k) 0 hs rfl ?ok1 ?env1 ?round1
  case ok1 => exact ⟨Nat.zero_le _, fun i hi => by omega⟩
  case env1 => exact (Env.le_consE rfl (by rfl) Env.le_nil)
  case round1 =>
   rintro k I a w hok hs
   obtain ⟨hk_k, hall⟩ := hok
   refine wp_seq <| wp_seq <| St.region <| hs.m fun hs => hs.o (ok_fieldP fd35_3 rfl .tt) fun hs => hs.o (ok_load1 ty32 .tt) fun hs => ?_
   refine hs.o ((by first | exact ok_lenM un32 .tt | exact ok_len un32 .tt | exact ok_lenV un32 .tt)) fun hs => ?_
   refine hs.o (ok_lss .tt .tt) fun hs => wpList_nil <| then_n ?_
   refine hs.cond .tt (fun hb2 => ?_) (fun hb2 => ?_)
   ·try simp only [B] at hb2
    refine wp_skip <| then_n <| wp_seq <| wp_block <| wp_seq <| St.region <| hs.o (ok_fieldP fd35_3 rfl .tt) fun hs => hs.o (ok_load1 ty32 .tt) fun hs => hs.m fun hs => ?_
    refine hs.o ((by first | exact ok_idxN un32 ty70 .tt .tt (fun _ => by exact hb2) | exact ok_idxM un32 ty70 .tt .tt (fun _ => by exact hb2) | exact ok_idx un32 ty70 .tt .tt (fun _ => by exact hb2))) fun hs => ?_
    refine hs.o ((by first | exact ok_loadA ty70 .tt rfl | exact ok_loadS ty70 .tt rfl)) fun hs => ?_
    refine hs.alloc rfl ty70 zc70 fun b4 I a w hs => ?_
    refine hs.storeB 0 ty70 .tt .tt rfl (by first | rfl | assumption) rfl fun a w hs => ?_
    obtain ⟨I, hs, hf⟩ := hs.freezeBox 0 rfl
    have hs := hs.upd (t := 4) rfl hf; clear hf
    refine wpList_nil <| then_n <| wp_seq <| wp_seq <| St.region ?_
    have hp := neckOk_parts hb1
    have hck := hp.2.2.2.2.1 _ (elt_mem hb2)
    have hcp := callOk_parts hck
    have hce := callOk_end hck hp.1.1
    refine hs.o (ok_fieldP fd70_7 rfl .tt) fun hs => hs.o (ok_load1 ty3 .tt) fun hs => hs.o (ok_gtr .tt .c) fun hs => hs.m fun hs => ?_
    refine hs.q .T ((by first | exact ok_loadA ty70 .tt rfl | exact ok_loadS ty70 .tt rfl)) fun hs => ?_
    refine hs.q .T (ok_call (c_spec_l43Read _ hcp.1 hcp.2.1) (args_cons .ag args_nil)) fun hs => ?_
    refine hs.q .T (ok_not .ag) fun hs => ?_
    refine hs.o (ok_and .tt .pc .c) fun hs => wpList_nil <| then_n ?_
    refine hs.cond .tt (fun hb3 => ?_) (fun hb3 => ?_)
    ·skip
     refine wp_seq <| St.region <| hs.sc fun hs => wpList_nil <| then_n <| wp_ret <| then_r <| block_r <| then_r <| then_r <| block_r <| then_r <| hs.ret rfl (.cons (.t rfl) ResL.nil) ?_
     exact ret_bool (by unfold callsSaw; rw [allN_false (f := sawAt x) hb2 (saw_test1 x k hb3)]; simp)
    ·skip
     refine wp_skip <| then_n <| wp_seq <| St.region <| hs.o (ok_fieldP fd35_4 rfl .tt) fun hs => hs.o (ok_load1 ty33 .tt) fun hs => hs.o (ok_fieldP fd70_0 rfl .tt) fun hs => hs.o (ok_load1 ty3 .tt) fun hs => ?_
     refine hs.o ((by first | exact ok_idxN un33 ty65 .tt .tt (fun _ => by omega) | exact ok_idxM un33 ty65 .tt .tt (fun _ => by omega) | exact ok_idx un33 ty65 .tt .tt (fun _ => by omega))) fun hs => ?_
     refine hs.o (ok_load1 ty65 .tt) fun hs => hs.s fun hs => wpList_nil <| then_n ?_
     refine St.cut (σ := Unit) (5 :: 6 :: 38 :: 39 :: 40 :: 41 :: 42 :: 43 :: 44 :: 45 :: 46 :: 47 :: 48 :: 49 :: 50 :: 51 :: 52 :: 53 :: 54 :: 55 :: 56 :: 57 :: 58 :: 59 :: 60 :: 61 :: []) ⟨fun _ => [(5, depsAV (nextSeen x k))], fun _ => [Own.gone], fun _ => True⟩ hs ?cutA10 ?cutB10
     case cutA10 =>
      refine wp_seq <| St.region <| hs.m fun hs => ?_
      refine hs.o (ok_add .tt .c (fun _ => by omega)) fun hs => ?_
      refine hs.s fun hs => wpList_nil <| then_n <| wp_block ?_
      refine St.loopS (σ := Nat) (5 :: 6 :: 40 :: 41 :: 42 :: 43 :: 44 :: 45 :: 46 :: 47 :: 48 :: 49 :: 50 :: 51 :: 52 :: 53 :: 54 :: 55 :: 56 :: 57 :: 58 :: 59 :: 60 :: 61 :: []) ⟨fun j => [(6, AV.int j), (5, depsAV (elt x.seen (elt x.calls k).client.toNat))], fun j => [Own.gone], fun j => k + 1 ≤ j ∧ j ≤ x.calls.length ∧ ∀ i, k + 1 ≤ i → i < j → (elt x.calls i).client ≠ (elt x.calls k).client⟩ (fun j => x.calls.length - j) (k + 1) hs rfl ?ok2 ?env2 ?round2
      case ok2 => exact ⟨Nat.le_refl _, hb2, fun i h1 h2 => by omega⟩
      case env2 => exact (Env.le_consE rfl (by rfl) (Env.le_consE rfl (by rfl) Env.le_nil))
      case round2 =>
       rintro j I a w hok hs
       obtain ⟨hkj, hjl, hno⟩ := hok
       refine wp_seq <| wp_seq <| St.region <| hs.m fun hs => hs.o (ok_fieldP fd35_3 rfl .tt) fun hs => hs.o (ok_load1 ty32 .tt) fun hs => ?_
       refine hs.o ((by first | exact ok_lenM un32 .tt | exact ok_len un32 .tt | exact ok_lenV un32 .tt)) fun hs => ?_
       refine hs.o (ok_lss .tt .tt) fun hs => wpList_nil <| then_n ?_
       refine hs.cond .tt (fun hb4 => ?_) (fun hb4 => ?_)
       ·try simp only [B] at hb4
        refine wp_skip <| then_n <| wp_seq <| wp_block <| wp_seq <| hs.dk <| .o (ok_fieldP fd35_3 rfl .tt) <| .o (ok_load1 ty32 .tt) <| .o (ok_move .tt) ?_
        refine .o ((by first | exact ok_idxN un32 ty70 .tt .tt (fun _ => by exact hb4) | exact ok_idxM un32 ty70 .tt .tt (fun _ => by exact hb4) | exact ok_idx un32 ty70 .tt .tt (fun _ => by exact hb4))) ?_
        refine .o (ok_fieldP fd70_0 rfl .tt) <| .o (ok_load1 ty3 .tt) <| .o (ok_fieldP fd70_0 rfl .tt) <| .o (ok_load1 ty3 .tt) <| .o (ok_eqi .tt .tt) <| RunK.nil ?_
        intro I a w hs
        refine then_n ?_
        refine hs.cond .tt (fun hb5 => ?_) (fun hb5 => ?_)
        ·try simp only [B] at hb5
         refine wp_seq <| St.region <| hs.o (ok_fieldP fd35_3 rfl .tt) fun hs => hs.o (ok_load1 ty32 .tt) fun hs => hs.m fun hs => ?_
         refine hs.o ((by first | exact ok_idxN un32 ty70 .tt .tt (fun _ => by exact hb4) | exact ok_idxM un32 ty70 .tt .tt (fun _ => by exact hb4) | exact ok_idx un32 ty70 .tt .tt (fun _ => by exact hb4))) fun hs => ?_
         refine hs.o (ok_fieldP fd70_5 rfl .tt) fun hs => hs.o (ok_load1 ty65 .tt) fun hs => hs.s fun hs => wpList_nil <| then_n <| wp_exit <| block_x rfl <| then_x <| then_x <| block_hit <| then_n ?_
         refine hs.meet () ?ok2001 (by rfl) ?env2001 (by repeat (first | exact Env.le_rfl | refine Env.le_push rfl ?_))
         case ok2001 => trivial
         case env2001 => exact (Env.le_consE rfl (by first | exact congrArg depsAV (next_hit hkj hb4 hno hb5).symm | exact congrArg depsAV (next_none fun i h1 h2 => hno i h1 (by omega)).symm) Env.le_nil)
        ·try simp only [B] at hb5
         refine wp_skip <| block_n <| then_n <| St.region <| hs.m fun hs => ?_
         refine hs.o (ok_add .tt .c (fun _ => by omega)) fun hs => ?_
         refine hs.s fun hs => wpList_nil <| then_n ?_
         refine hs.again (j + 1) ?mu2 ?ok1002 (by rfl) ?env1002 (by repeat (first | exact Env.le_rfl | refine Env.le_push rfl ?_))
         case mu2 => omega
         case ok1002 => exact ⟨by omega, by omega, fun i h1 h2 => by rcases Nat.lt_succ_iff_lt_or_eq.1 h2 with h | h; exact hno i h1 h; rw [h]; exact hb5⟩
         case env1002 => exact (Env.le_consE rfl (by first | rfl | (congr 1; done)) (Env.le_consE rfl (by first | rfl | (congr 1; done)) Env.le_nil))
       ·try simp only [B] at hb4
        refine wp_exit <| then_x <| then_x <| block_hit <| then_n ?_
        refine hs.meet () ?ok2003 (by rfl) ?env2003 (by repeat (first | exact Env.le_rfl | refine Env.le_push rfl ?_))
        case ok2003 => trivial
        case env2003 => exact (Env.le_consE rfl (by first | exact congrArg depsAV (next_hit hkj hb4 hno hb5).symm | exact congrArg depsAV (next_none fun i h1 h2 => hno i h1 (by omega)).symm) Env.le_nil)
     case cutB10 =>
      rintro _ I a w hok hs
      refine wp_seq <| St.region ?_
      refine hs.o ((by first | exact ok_loadA ty70 .tt rfl | exact ok_loadS ty70 .tt rfl)) fun hs => ?_
      refine hs.o (ok_call (c_spec_CallSaw _ _ hck (by omega) (by omega) (hgl _ (elt_mem hb2))) (args_cons (.t rfl) args_nil)) fun hs => ?_
      refine hs.s fun hs => wpList_nil <| then_n <| wp_seq <| wp_seq <| St.region <| hs.m fun hs => ?_
      refine hs.o ((by first | exact ok_lenM un65 .tt | exact ok_len un65 .tt | exact ok_lenV un65 .tt)) fun hs => ?_
      refine hs.m fun hs => ?_
      refine hs.o ((by first | exact ok_lenM un65 .tt | exact ok_len un65 .tt | exact ok_lenV un65 .tt)) fun hs => ?_
      refine hs.o (ok_nei .tt .tt) fun hs => wpList_nil <| then_n ?_
      refine hs.cond .tt (fun hb6 => ?_) (fun hb6 => ?_)
      ·try simp only [B] at hb6
       refine wp_seq <| St.region <| hs.sc fun hs => wpList_nil <| then_n <| wp_ret <| then_r <| block_r <| then_r <| then_r <| block_r <| then_r <| hs.ret rfl (.cons (.t rfl) ResL.nil) ?_
       exact ret_bool (by unfold callsSaw; rw [allN_false (f := sawAt x) hb2 (saw_test3 x k (depsSame_len hb6))]; simp)
      ·try simp only [B] at hb6
       refine wp_skip <| then_n <| wp_seq <| St.region <| hs.sc fun hs => wpList_nil <| then_n <| wp_block ?_
       refine St.loopS (σ := Nat) (2 :: 8 :: 69 :: 70 :: 71 :: 72 :: 73 :: 74 :: 75 :: 76 :: 77 :: 78 :: 79 :: 80 :: 81 :: 82 :: 83 :: []) ⟨fun k2 => [(8, AV.int k2)], fun k2 => [Own.gone], fun k2 => k2 ≤ (sawD (elt x.calls k)).length ∧ ∀ i, i < k2 → (fun i => decide (elt (sawD (elt x.calls k)) i = elt (nextSeen x k) i)) i = true⟩ (fun k2 => (sawD (elt x.calls k)).length - k2) 0 hs rfl ?ok3 ?env3 ?round3
       case ok3 => exact ⟨Nat.zero_le _, fun i hi => by omega⟩
       case env3 => exact (Env.le_consE rfl (by rfl) Env.le_nil)
       case round3 =>
        rintro k2 I a w hok hs
        obtain ⟨hk_k2, hall2⟩ := hok
        refine wp_seq <| wp_seq <| St.region <| hs.m fun hs => hs.m fun hs => ?_
        refine hs.o ((by first | exact ok_lenM un65 .tt | exact ok_len un65 .tt | exact ok_lenV un65 .tt)) fun hs => ?_
        refine hs.o (ok_lss .tt .tt) fun hs => wpList_nil <| then_n ?_
        refine hs.cond .tt (fun hb7 => ?_) (fun hb7 => ?_)
        ·try simp only [B] at hb7
         refine wp_skip <| then_n <| wp_seq <| wp_block <| wp_seq <| hs.dk <| .o (ok_move .tt) <| .o (ok_move .tt) ?_
         refine .o ((by first | exact ok_idxN un65 ty74 .tt .tt (fun _ => by exact hb7) | exact ok_idxM un65 ty74 .tt .tt (fun _ => by exact hb7) | exact ok_idx un65 ty74 .tt .tt (fun _ => by exact hb7))) ?_
         refine .o ((by first | exact ok_loadA ty74 .tt rfl | exact ok_loadS ty74 .tt rfl)) ?_
         refine .o (ok_move .tt) <| .o (ok_move .tt) ?_
         refine .o ((by first | exact ok_idxN un65 ty74 .tt .tt (fun _ => by omega) | exact ok_idxM un65 ty74 .tt .tt (fun _ => by omega) | exact ok_idx un65 ty74 .tt .tt (fun _ => by omega))) ?_
         refine .o ((by first | exact ok_loadA ty74 .tt rfl | exact ok_loadS ty74 .tt rfl)) ?_
         refine .o (ok_neS [_, _, _] [_, _, _] eqt74 rfl rfl .tt .tt) <| RunK.nil ?_
         intro I a w hs
         refine then_n ?_
         refine hs.cond .tt (fun hb8 => ?_) (fun hb8 => ?_)
         ·rw [deps_neq] at hb8; replace hb8 := nt hb8
          refine wp_seq <| St.region <| hs.sc fun hs => wpList_nil <| then_n <| wp_ret <| block_r <| then_r <| then_r <| block_r <| block_r <| then_r <| then_r <| block_r <| then_r <| hs.ret rfl (.cons (.t rfl) ResL.nil) ?_
          exact ret_bool (by unfold callsSaw; rw [allN_false (f := sawAt x) hb2 (saw_test3 x k (depsSame_elt hb8))]; simp)
         ·rw [deps_neq] at hb8; replace hb8 := nf hb8
          refine wp_skip <| block_n <| then_n <| St.region <| hs.m fun hs => ?_
          refine hs.o (ok_add .tt .c (fun _ => by have := sawD_len hck; omega)) fun hs => ?_
          refine hs.s fun hs => wpList_nil <| then_n ?_
          refine hs.again (k2 + 1) ?mu4 ?ok1004 (by rfl) ?env1004 (by repeat (first | exact Env.le_rfl | refine Env.le_push rfl ?_))
          case mu4 => omega
          case ok1004 => exact ⟨by omega, allN_next hall2 hb8⟩
          case env1004 => exact (Env.le_consE rfl (by first | rfl | (congr 1; done)) Env.le_nil)
        ·try simp only [B] at hb7
         refine wp_exit <| then_x <| then_x <| block_hit <| block_n <| then_n <| St.region <| hs.m fun hs => ?_
         refine hs.o (ok_add .tt .c (fun _ => by omega)) fun hs => ?_
         refine hs.s fun hs => wpList_nil <| then_n ?_
         have hs := hs.drop 0
         refine hs.again (k + 1) ?mu5 ?ok1005 (by rfl) ?env1005 (by repeat (first | exact Env.le_rfl | refine Env.le_push rfl ?_))
         case mu5 => omega
         case ok1005 => exact ⟨by omega, allN_next hall (saw_test2 x k hb3 (depsSame_all hb6 fun i hi => hall2 i (by omega)))⟩
         case env1005 => exact (Env.le_consE rfl (by first | rfl | (congr 1; done)) Env.le_nil)
   ·try simp only [B] at hb2
    refine wp_exit <| then_x <| then_x <| block_hit <| then_n <| wp_seq <| St.region <| hs.sc fun hs => wpList_nil <| then_n <| wp_ret <| hs.ret rfl (.cons (.t rfl) ResL.nil) ?_
    exact ret_bool (by unfold callsSaw; rw [hb1, allN_true hall (by omega)]; rfl)

end Go.Proofs.YtlppgilifnkapaaGreat
