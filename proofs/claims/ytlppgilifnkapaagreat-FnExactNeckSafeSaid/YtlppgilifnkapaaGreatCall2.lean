/- Walks: calls. -/
import Derived.Test.YtlppgilifnkapaaGreatCallM
import Derived.Test.YtlppgilifnkapaaGreatDraw3
set_option linter.unusedVariables false
set_option linter.unusedSimpArgs false
set_option maxRecDepth 100000
namespace Go.Proofs.YtlppgilifnkapaaGreat
open Go Go.RowKit

theorem c_slices_Index_int_int (l : List Int) (key : Int) :
    Fn Tryz.prog 300 [intsAV l, AV.int key] (AV.int (idxI (intIs key) l)) := by
 refine Fn.intro 19 Tryz.func300 rfl Tryz.ntmps300 rfl (by kernel_rfl) (fun W I a hs => ?_)
 have hle := hs.lenleM (t := 0) rfl
 refine wp_seq <| St.region <| hs.sc fun hs => wpList_nil <| then_n <| wp_seq <| wp_seq <| St.region <| hs.m fun hs => ?_
 refine hs.o ((by first | exact ok_lenM un64 .tt | exact ok_len un64 .tt | exact ok_lenV un64 .tt)) fun hs => ?_
 refine hs.mc fun hs => wpList_nil <| then_n <| wp_block ?_
 refine St.loopS (σ := Nat) (4 :: 5 :: 8 :: 9 :: 10 :: 11 :: 12 :: 13 :: 14 :: 15 :: 16 :: 17 :: 18 :: []) ⟨fun k => [(8, AV.int k)], fun k => [], fun k => k ≤ l.length ∧ ∀ i, i < k → intIs key (elt l i) = false⟩ (fun k => l.length - k) 0 hs rfl ?ok1 ?env1 ?round1
 case ok1 => exact ⟨Nat.zero_le _, fun i hi => by omega⟩
 case env1 => exact (Env.le_consE rfl (by rfl) Env.le_nil)
 case round1 =>
  rintro k I a w hok hs
  obtain ⟨hk, hall⟩ := hok
  refine wp_seq <| St.region <| hs.o (ok_lss .tt .tt) fun hs => wpList_nil <| then_n <| wp_seq ?_
  refine hs.cond .tt (fun hb1 => ?_) (fun hb1 => ?_)
  ·try simp only [B] at hb1
   refine wp_skip <| then_n <| wp_seq <| wp_block <| wp_seq <| St.region <| hs.m fun hs => hs.s fun hs => wpList_nil <| then_n <| wp_seq <| St.region <| hs.m fun hs => hs.m fun hs => hs.m fun hs => ?_
   refine hs.o ((by first | exact ok_idxN un64 ty3 .tt .tt (fun _ => by exact hb1) | exact ok_idxM un64 ty3 .tt .tt (fun _ => by exact hb1) | exact ok_idx un64 ty3 .tt .tt (fun _ => by exact hb1))) fun hs => ?_
   refine hs.o (ok_load1 ty3 .tt) fun hs => hs.o (ok_eqi .tt .tt) fun hs => wpList_nil <| then_n ?_
   refine hs.cond .tt (fun hb2 => ?_) (fun hb2 => ?_)
   ·rw [show (key == elt l k) = intIs key (elt l k) from Bool.beq_comm] at hb2
    refine wp_seq <| St.region <| hs.m fun hs => hs.s fun hs => wpList_nil <| then_n <| wp_ret <| block_r <| then_r <| then_r <| block_r <| then_r <| hs.ret rfl (.cons (.t rfl) ResL.nil) ?_
    exact ret_int (idx_hit hb1 hall hb2).symm
   ·rw [show (key == elt l k) = intIs key (elt l k) from Bool.beq_comm] at hb2
    refine wp_skip <| block_n <| then_n <| St.region ?_
    refine hs.o (ok_add .tt .c (fun _ => by omega)) fun hs => ?_
    refine hs.m fun hs => wpList_nil <| then_n ?_
    refine hs.again (k + 1) ?mu1 ?ok1001 (by rfl) ?env1001 (by repeat (first | exact Env.le_rfl | refine Env.le_push rfl ?_))
    case mu1 => omega
    case ok1001 => exact ⟨by omega, fun i h1 => by rcases Nat.lt_succ_iff_lt_or_eq.1 h1 with h | h; exact hall i h; rw [h]; exact hb2⟩
    case env1001 => exact (Env.le_consE rfl (by first | rfl | (congr 1; done)) Env.le_nil)
  ·try simp only [B] at hb1
   refine wp_exit <| then_x <| then_x <| block_hit <| then_n <| wp_seq <| St.region <| hs.sc fun hs => wpList_nil <| then_n <| wp_ret <| hs.ret rfl (.cons (.t rfl) ResL.nil) ?_
   exact ret_int (idx_none (by omega) hall).symm

theorem c_slices_Contains_int_int (l : List Int) (key : Int) :
    Fn Tryz.prog 280 [intsAV l, AV.int key] (AV.bool (hasKey l key)) := by
 refine Fn.intro 9 Tryz.func280 rfl Tryz.ntmps280 rfl (by kernel_rfl) (fun W I a hs => ?_)
 refine wp_seq <| St.region <| hs.sc fun hs => wpList_nil <| then_n <| wp_seq <| St.region <| hs.m fun hs => hs.m fun hs => ?_
 refine hs.o (ok_call (c_slices_Index_int_int l key) (args_cons .r (args_cons .tt args_nil))) fun hs => ?_
 refine hs.o (ok_geq .tt .c) fun hs => hs.s fun hs => wpList_nil <| then_n <| wp_ret <| hs.ret rfl (.cons (.t rfl) ResL.nil) ?_
 rfl

theorem c_spec_l31Has (l : List Int) (key : Int) :
    Fn Tryz.prog 177 [intsAV l, AV.int key] (AV.bool (hasKey l key)) := by
 refine Fn.intro 18 Tryz.func177 rfl Tryz.ntmps177 rfl (by kernel_rfl) (fun W I a hs => ?_)
 have hle := hs.lenleM (t := 0) rfl
 refine wp_seq <| St.region <| hs.sc fun hs => wpList_nil <| then_n <| wp_seq <| wp_seq <| St.region <| hs.sc fun hs => wpList_nil <| then_n <| wp_block ?_
 refine St.loopS (σ := Nat) (4 :: 5 :: 6 :: 7 :: 8 :: 9 :: 10 :: 11 :: 12 :: 13 :: 14 :: 15 :: 16 :: 17 :: []) ⟨fun k => [(5, AV.int k)], fun k => [], fun k => k ≤ l.length ∧ ∀ i, i < k → intIs key (elt l i) = false⟩ (fun k => l.length - k) 0 hs rfl ?ok1 ?env1 ?round1
 case ok1 => exact ⟨Nat.zero_le _, fun i hi => by omega⟩
 case env1 => exact (Env.le_consE rfl (by rfl) Env.le_nil)
 case round1 =>
  rintro k I a w hok hs
  obtain ⟨hk, hall⟩ := hok
  refine wp_seq <| wp_seq <| St.region <| hs.m fun hs => hs.m fun hs => ?_
  refine hs.o ((by first | exact ok_lenM un64 .tt | exact ok_len un64 .tt | exact ok_lenV un64 .tt)) fun hs => ?_
  refine hs.o (ok_lss .tt .tt) fun hs => wpList_nil <| then_n ?_
  refine hs.cond .tt (fun hb1 => ?_) (fun hb1 => ?_)
  ·try simp only [B] at hb1
   refine wp_skip <| then_n <| wp_seq <| wp_block <| wp_seq <| St.region <| hs.m fun hs => hs.m fun hs => ?_
   refine hs.o ((by first | exact ok_idxN un64 ty3 .tt .tt (fun _ => by exact hb1) | exact ok_idxM un64 ty3 .tt .tt (fun _ => by exact hb1) | exact ok_idx un64 ty3 .tt .tt (fun _ => by exact hb1))) fun hs => ?_
   refine hs.o (ok_load1 ty3 .tt) fun hs => hs.m fun hs => hs.o (ok_eqi .tt .tt) fun hs => wpList_nil <| then_n ?_
   refine hs.cond .tt (fun hb2 => ?_) (fun hb2 => ?_)
   ·skip
    refine wp_seq <| St.region <| hs.sc fun hs => wpList_nil <| then_n <| wp_ret <| block_r <| then_r <| then_r <| block_r <| then_r <| hs.ret rfl (.cons (.t rfl) ResL.nil) ?_
    exact ret_bool (mem_hasB (elt_mem hb1) hb2).symm
   ·skip
    refine wp_skip <| block_n <| then_n <| St.region <| hs.m fun hs => ?_
    refine hs.o (ok_add .tt .c (fun _ => by omega)) fun hs => ?_
    refine hs.s fun hs => wpList_nil <| then_n ?_
    refine hs.again (k + 1) ?mu1 ?ok1001 (by rfl) ?env1001 (by repeat (first | exact Env.le_rfl | refine Env.le_push rfl ?_))
    case mu1 => omega
    case ok1001 => exact ⟨by omega, fun i h1 => by rcases Nat.lt_succ_iff_lt_or_eq.1 h1 with h | h; exact hall i h; rw [h]; exact hb2⟩
    case env1001 => exact (Env.le_consE rfl (by first | rfl | (congr 1; done)) Env.le_nil)
  ·try simp only [B] at hb1
   refine wp_exit <| then_x <| then_x <| block_hit <| then_n <| wp_seq <| St.region <| hs.sc fun hs => wpList_nil <| then_n <| wp_ret <| hs.ret rfl (.cons (.t rfl) ResL.nil) ?_
   exact ret_bool (by unfold hasKey hasB; rw [idx_none (by omega) hall]; rfl)

theorem c_impl_Call_got_1 (x : Answer) (key : Int) :
    Fn Tryz.prog 282 [x.av, AV.ptr [AV.int key]] (AV.bool (ansIs key x)) := by
 refine Fn.intro 8 Tryz.func282 rfl Tryz.ntmps282 rfl (by kernel_rfl) (fun W I a hs => ?_)
 refine wp_seq <| St.region <| hs.o (ok_boxP .tt) fun hs => hs.sc fun hs => wpList_nil <| then_n <| wp_seq <| St.region <| hs.o (ok_fieldP fd140_0 rfl .tt) fun hs => hs.o (ok_load1 ty3 .tt) fun hs => hs.o (ok_load1 ty3 .tt) fun hs => hs.o (ok_eqi .tt .tt) fun hs => hs.s fun hs => wpList_nil <| then_n <| wp_ret <| hs.ret rfl (.cons (.t rfl) ResL.nil) ?_
 rfl

theorem c_impl_Call_got (q : Call) (key : Int) :
    Fn Tryz.prog 257 [q.av, AV.int key] (AV.int (gotI q key)) := by
 refine Fn.intro 9 Tryz.func257 rfl Tryz.ntmps257 rfl (by kernel_rfl) (fun W I a hs => ?_)
 refine wp_seq <| St.region <| hs.o (ok_boxP .tt) fun hs => ?_
 refine hs.o (ok_boxP1 .tt (by first | exact one_val rfl | exact one_rows | exact one_ptr | exact one_fn)) fun hs => ?_
 refine hs.sc fun hs => wpList_nil <| then_n <| wp_seq <| St.region <| hs.o (ok_fieldP fd70_10 rfl .tt) fun hs => hs.o (ok_load1 ty68 .tt) fun hs => hs.o (ok_makeFunc (args_cons .tt args_nil)) fun hs => ?_
 refine hs.o (ok_call (c_slices_IndexFunc_impl_Answer_impl_Answer q.got (ansIs key) _ (fun v _ => Fn.val (c_impl_Call_got_1 v key))) (args_cons .r (args_cons .tt args_nil))) fun hs => ?_
 refine hs.s fun hs => wpList_nil <| then_n <| wp_ret <| hs.ret rfl (.cons (.t rfl) ResL.nil) ?_
 rfl

theorem c_spec_l31Got (q : Call) (key : Int) :
    Fn Tryz.prog 178 [q.av, AV.int key] (AV.int (gotI q key)) := by
 refine Fn.intro 22 Tryz.func178 rfl Tryz.ntmps178 rfl (by kernel_rfl) (fun W I a hs => ?_)
 have lens : q.keys.length ≤ 9223372036854775807 ∧ q.got.length ≤ 9223372036854775807 ∧ q.needs.length ≤ 9223372036854775807 := by
    obtain ⟨cs, _, hc⟩ := hs.env 0 _ rfl
    obtain ⟨u1, _, h1, _⟩ := hc.get (i := 3) rfl
    obtain ⟨u2, _, h2, _⟩ := hc.get (i := 11) rfl
    obtain ⟨u3, _, h3, _⟩ := hc.get (i := 12) rfl
    exact ⟨rows_le h1, rows_le h2, rows_le h3⟩
 refine wp_seq <| St.region <| hs.o (ok_boxP .tt) fun hs => hs.sc fun hs => wpList_nil <| then_n <| wp_seq <| wp_seq <| St.region <| hs.sc fun hs => wpList_nil <| then_n <| wp_block ?_
 refine St.loopS (σ := Nat) (4 :: 5 :: 6 :: 7 :: 8 :: 9 :: 10 :: 11 :: 12 :: 13 :: 14 :: 15 :: 16 :: 17 :: 18 :: 19 :: 20 :: 21 :: []) ⟨fun k => [(5, AV.int k)], fun k => [], fun k => k ≤ q.got.length ∧ ∀ i, i < k → ansIs key (elt q.got i) = false⟩ (fun k => q.got.length - k) 0 hs rfl ?ok1 ?env1 ?round1
 case ok1 => exact ⟨Nat.zero_le _, fun i hi => by omega⟩
 case env1 => exact (Env.le_consE rfl (by rfl) Env.le_nil)
 case round1 =>
  rintro k I a w hok hs
  obtain ⟨hk, hall⟩ := hok
  refine wp_seq <| wp_seq <| St.region <| hs.m fun hs => hs.o (ok_fieldP fd70_10 rfl .tt) fun hs => hs.o (ok_load1 ty68 .tt) fun hs => ?_
  refine hs.o ((by first | exact ok_lenM un68 .tt | exact ok_len un68 .tt | exact ok_lenV un68 .tt)) fun hs => ?_
  refine hs.o (ok_lss .tt .tt) fun hs => wpList_nil <| then_n ?_
  refine hs.cond .tt (fun hb1 => ?_) (fun hb1 => ?_)
  ·try simp only [B] at hb1
   refine wp_skip <| then_n <| wp_seq <| wp_block <| wp_seq <| St.region <| hs.o (ok_fieldP fd70_10 rfl .tt) fun hs => hs.o (ok_load1 ty68 .tt) fun hs => hs.m fun hs => ?_
   refine hs.o ((by first | exact ok_idxN un68 ty140 .tt .tt (fun _ => by exact hb1) | exact ok_idxM un68 ty140 .tt .tt (fun _ => by exact hb1) | exact ok_idx un68 ty140 .tt .tt (fun _ => by exact hb1))) fun hs => ?_
   refine hs.o (ok_fieldP fd140_0 rfl .tt) fun hs => hs.o (ok_load1 ty3 .tt) fun hs => hs.m fun hs => hs.o (ok_eqi .tt .tt) fun hs => wpList_nil <| then_n ?_
   refine hs.cond .tt (fun hb2 => ?_) (fun hb2 => ?_)
   ·skip
    refine wp_seq <| St.region <| hs.m fun hs => hs.s fun hs => wpList_nil <| then_n <| wp_ret <| block_r <| then_r <| then_r <| block_r <| then_r <| hs.ret rfl (.cons (.t rfl) ResL.nil) ?_
    exact ret_int (idx_hit hb1 hall hb2).symm
   ·skip
    refine wp_skip <| block_n <| then_n <| St.region <| hs.m fun hs => ?_
    refine hs.o (ok_add .tt .c (fun _ => by omega)) fun hs => ?_
    refine hs.s fun hs => wpList_nil <| then_n ?_
    refine hs.again (k + 1) ?mu1 ?ok1001 (by rfl) ?env1001 (by repeat (first | exact Env.le_rfl | refine Env.le_push rfl ?_))
    case mu1 => omega
    case ok1001 => exact ⟨by omega, fun i h1 => by rcases Nat.lt_succ_iff_lt_or_eq.1 h1 with h | h; exact hall i h; rw [h]; exact hb2⟩
    case env1001 => exact (Env.le_consE rfl (by first | rfl | (congr 1; done)) Env.le_nil)
  ·try simp only [B] at hb1
   refine wp_exit <| then_x <| then_x <| block_hit <| then_n <| wp_seq <| St.region <| hs.sc fun hs => wpList_nil <| then_n <| wp_ret <| hs.ret rfl (.cons (.t rfl) ResL.nil) ?_
   exact ret_int (idx_none (by omega) hall).symm

theorem c_impl_Answer_older (x : Answer) (s : Stamp) :
    Fn Tryz.prog 122 [x.av, s.av] (AV.bool (older x s)) := by
 refine Fn.intro 15 Tryz.func122 rfl Tryz.ntmps122 rfl (by kernel_rfl) (fun W I a hs => ?_)
 refine wp_seq <| St.region <| hs.o (ok_boxP .tt) fun hs => hs.o (ok_boxP .tt) fun hs => hs.sc fun hs => wpList_nil <| then_n <| wp_seq <| St.region <| hs.o (ok_fieldP fd140_1 rfl .tt) fun hs => hs.o (ok_load1 ty4 .tt) fun hs => hs.o (ok_not .tt) fun hs => hs.m fun hs => hs.q .F (ok_fieldP fd140_2 rfl .tt) fun hs => hs.q .F (ok_fieldP fd94_1 rfl .ag) fun hs => ?_
 refine hs.q .F ((by first | exact ok_loadA ty67 .ag rfl | exact ok_loadS ty67 .ag rfl)) fun hs => ?_
 refine hs.q .F ((by first | exact ok_loadA ty67 .tt rfl | exact ok_loadS ty67 .tt rfl)) fun hs => ?_
 refine hs.q .F (ok_call (c_impl_StampLess ..) (args_cons .ag (args_cons .ag args_nil))) fun hs => ?_
 refine hs.o (ok_or .tt .c .pc) fun hs => hs.s fun hs => wpList_nil <| then_n <| wp_ret <| hs.ret rfl (.cons (.t rfl) ResL.nil) ?_
 rfl

theorem c_impl_Call_answered (q : Call) :
    Fn Tryz.prog 248 [q.av] (AV.bool (answered q)) := by
 refine Fn.intro 10 Tryz.func248 rfl Tryz.ntmps248 rfl (by kernel_rfl) (fun W I a hs => ?_)
 refine wp_seq <| St.region <| hs.o (ok_boxP .tt) fun hs => hs.sc fun hs => wpList_nil <| then_n <| wp_seq <| St.region <| hs.o (ok_fieldP fd70_10 rfl .tt) fun hs => hs.o (ok_load1 ty68 .tt) fun hs => ?_
 refine hs.o ((by first | exact ok_lenM un68 .tt | exact ok_len un68 .tt | exact ok_lenV un68 .tt)) fun hs => ?_
 refine hs.o (ok_fieldP fd70_3 rfl .tt) fun hs => hs.o (ok_load1 ty64 .tt) fun hs => ?_
 refine hs.o ((by first | exact ok_lenM un64 .tt | exact ok_len un64 .tt | exact ok_lenV un64 .tt)) fun hs => ?_
 refine hs.o (ok_eqi .tt .tt) fun hs => hs.s fun hs => wpList_nil <| then_n <| wp_ret <| hs.ret rfl (.cons (.t rfl) ResL.nil) ?_
 rfl


def sameHead (u v : Ver) : Bool := !((u.key != v.key) || ([u.stamp.time, u.stamp.site] != [v.stamp.time, v.stamp.site]) || (u.val != v.val) || (u.client != v.client) || (u.call != v.call) || ((u.deps.length : Int) != v.deps.length))
def sameDep (u v : Ver) (i : Nat) : Bool := decide (elt u.deps i = elt v.deps i)
theorem elts_eq {α : Type} [Inhabited α] {l m : List α} (h : l.length = m.length) (he : ∀ i, i < l.length → elt l i = elt m i) : l = m := by
  apply List.ext_getElem h
  intro i h1 h2
  have := he i h1
  simpa [elt, h1, h2] using this
theorem verIs_eq (u v : Ver) : verIs u v = (sameHead u v && allN u.deps.length (sameDep u v)) := by
  rw [Bool.eq_iff_iff, Bool.and_eq_true, allN_iff]
  obtain ⟨a1, ⟨a2, a3⟩, a4, a5, a6, a7⟩ := u
  obtain ⟨b1, ⟨b2, b3⟩, b4, b5, b6, b7⟩ := v
  simp only [verIs, sameHead, sameDep, decide_eq_true_eq]
  constructor
  · intro h
    simp at h
    obtain ⟨rfl, ⟨rfl, rfl⟩, rfl, rfl, rfl, rfl⟩ := h
    simp
  · rintro ⟨h1, h2⟩
    simp at h1 h2
    have : a7 = b7 := elts_eq (by omega) h2
    simp [this]; omega
theorem deps_neq (d e : Dep) : ([d.key, d.stamp.time, d.stamp.site] != [e.key, e.stamp.time, e.stamp.site]) = !decide (d = e) := by
  obtain ⟨k, ⟨t, s⟩⟩ := d
  obtain ⟨k', ⟨t', s'⟩⟩ := e
  rw [Bool.eq_iff_iff]; simp; omega
theorem stamp_neq0 (s : Stamp) : ([s.time, s.site] != [0, 0]) = !stampNone s := by
  rw [Bool.eq_iff_iff]; simp [stampNone]; omega
theorem stamp_eq0 (s : Stamp) : ([s.time, s.site] == [0, 0]) = stampNone s := by
  rw [Bool.eq_iff_iff]; simp [stampNone]
theorem mid_test (q : Call) : (((q.kind == 1) && decide (0 < (q.got.length : Int) + q.needs.length)) || (!(q.kind == 1) && ((q.val != 0) || !stampNone q.stamp))) = !callMid q := by simp [callMid]
theorem head_begin {q : Call} {time : Int} (h : callHead q time = true) : 1 ≤ q.begin_ ∧ q.begin_ ≤ time := by
  simp only [callHead, Bool.and_eq_true] at h
  have := h.1.1.2
  simp [inB] at this; exact this
theorem head_lens {q : Call} {time : Int} (h : callHead q time = true) : q.got.length ≤ 3 ∧ q.needs.length ≤ 6 := by
  simp only [callHead, gotOk, Bool.and_eq_true] at h
  have hk : keysOk q = true := h.1.1.1.1.1.1.2
  have hd : depsOk q.needs = true := h.1.1.1.2
  have hg : gotsOk q = true := h.2.1.1
  have h3 : q.keys.length ≤ 3 := by
    unfold keysOk at hk
    rw [Bool.and_eq_true] at hk
    have := hk.2
    simp [inB] at this; omega
  have hku : keysUp q.keys = true := by unfold keysOk at hk; rw [Bool.and_eq_true] at hk; exact hk.1
  have := gots_le hku hg
  exact ⟨by omega, depsOk_len6 hd⟩
theorem ans2_test (q : Call) (k : Nat) : (!ansGood2 (elt q.got k) || !hasKey q.keys (elt q.got k).key || (decide (0 < (k : Int)) && decide ((elt q.got k).key ≤ (elt q.got ((k : Int) - 1).toNat).key))) = !ans2At q k := by
  unfold ans2At
  rw [Bool.or_assoc, ans_test]; simp
theorem need2_test (q : Call) (k : Nat) : (decide (gotI q (elt q.needs k).key < 0) || !stampLess (elt q.got (gotI q (elt q.needs k).key).toNat).ver.stamp (elt q.needs k).stamp) = !need2At q k := by
  unfold need2At
  have e : decide (gotI q (elt q.needs k).key < 0) = !decide (0 ≤ gotI q (elt q.needs k).key) := by rw [Bool.eq_iff_iff]; simp
  rw [e]; simp
theorem good2_test (x : Answer) (h : x.yes = false) : (keyB x.key && (x.ver.key == 0) && (x.ver.val == 0) && (x.ver.client == 0) && (x.ver.call == 0) && stampNone x.ver.stamp && ((x.ver.deps.length : Int) == 0)) = ansGood2 x := by
  unfold ansGood2
  rw [h]
  obtain ⟨k, y, ⟨vk, ⟨t, s⟩, vv, vc, vl, vd⟩⟩ := x
  simp only [verIs, ver0, stampNone]
  rw [Bool.eq_iff_iff]
  simp
  constructor
  · rintro ⟨⟨⟨⟨⟨⟨h1, h2⟩, h3⟩, h4⟩, h5⟩, h6⟩, h7⟩
    exact ⟨h1, h2, h6, h3, h4, h5, h7⟩
  · rintro ⟨h1, h2, h6, h3, h4, h5, h7⟩
    exact ⟨⟨⟨⟨⟨⟨h1, h2⟩, h3⟩, h4⟩, h5⟩, h6⟩, h7⟩


theorem sameHead_len {u v : Ver} (h : sameHead u v = true) : u.deps.length = v.deps.length := by
  simp only [sameHead, Bool.not_eq_true', Bool.or_eq_false_iff] at h
  have := h.2
  simp at this; omega

set_option maxHeartbeats 4000000 in
theorem c_impl_Ver_same (u v : Ver) :
    Fn Tryz.prog 61 [u.av, v.av] (AV.bool (verIs u v)) := by
 refine Fn.intro 65 Tryz.func61 rfl Tryz.ntmps61 rfl (by kernel_rfl) (fun W I a hs => ?_)
 have lens : u.deps.length ≤ 9223372036854775807 ∧ v.deps.length ≤ 9223372036854775807 := by
    obtain ⟨cs, _, hc⟩ := hs.env 0 _ rfl
    obtain ⟨u1, _, h1, _⟩ := hc.get (i := 6) rfl
    obtain ⟨cs2, _, hc2⟩ := hs.env 1 _ rfl
    obtain ⟨u2, _, h2, _⟩ := hc2.get (i := 6) rfl
    exact ⟨rows_le h1, rows_le h2⟩
 refine wp_seq <| St.region <| hs.o (ok_boxP .tt) fun hs => hs.o (ok_boxP .tt) fun hs => hs.sc fun hs => wpList_nil <| then_n <| wp_seq <| wp_seq <| St.region <| hs.o (ok_fieldP fd94_0 rfl .tt) fun hs => hs.o (ok_load1 ty3 .tt) fun hs => hs.o (ok_fieldP fd94_0 rfl .tt) fun hs => hs.o (ok_load1 ty3 .tt) fun hs => hs.o (ok_nei .tt .tt) fun hs => hs.m fun hs => hs.q .F (ok_fieldP fd94_1 rfl .tt) fun hs => ?_
 refine hs.q .F ((by first | exact ok_loadA ty67 .ag rfl | exact ok_loadS ty67 .ag rfl)) fun hs => ?_
 refine hs.q .F (ok_fieldP fd94_1 rfl .tt) fun hs => ?_
 refine hs.q .F ((by first | exact ok_loadA ty67 .ag rfl | exact ok_loadS ty67 .ag rfl)) fun hs => ?_
 refine hs.q .F (ok_neS [_, _] [_, _] eqt67 rfl rfl .ag .ag) fun hs => ?_
 refine hs.o (ok_or .tt .c .pc) fun hs => hs.m fun hs => hs.q .F (ok_fieldP fd94_2 rfl .tt) fun hs => hs.q .F (ok_load1 ty3 .ag) fun hs => ?_
 refine hs.q .F (ok_fieldP fd94_2 rfl .tt) fun hs => hs.q .F (ok_load1 ty3 .ag) fun hs => ?_
 refine hs.q .F (ok_nei .ag .ag) fun hs => ?_
 refine hs.o (ok_or .tt .c .pc) fun hs => hs.m fun hs => hs.q .F (ok_fieldP fd94_3 rfl .tt) fun hs => hs.q .F (ok_load1 ty3 .ag) fun hs => ?_
 refine hs.q .F (ok_fieldP fd94_3 rfl .tt) fun hs => hs.q .F (ok_load1 ty3 .ag) fun hs => ?_
 refine hs.q .F (ok_nei .ag .ag) fun hs => ?_
 refine hs.o (ok_or .tt .c .pc) fun hs => hs.m fun hs => hs.q .F (ok_fieldP fd94_4 rfl .tt) fun hs => hs.q .F (ok_load1 ty3 .ag) fun hs => ?_
 refine hs.q .F (ok_fieldP fd94_4 rfl .tt) fun hs => hs.q .F (ok_load1 ty3 .ag) fun hs => ?_
 refine hs.q .F (ok_nei .ag .ag) fun hs => ?_
 refine hs.o (ok_or .tt .c .pc) fun hs => hs.m fun hs => hs.q .F (ok_fieldP fd94_5 rfl .tt) fun hs => hs.q .F (ok_load1 ty65 .ag) fun hs => ?_
 refine hs.q .F ((by first | exact ok_lenM un65 .ag | exact ok_len un65 .ag | exact ok_lenV un65 .ag)) fun hs => ?_
 refine hs.q .F (ok_fieldP fd94_5 rfl .tt) fun hs => hs.q .F (ok_load1 ty65 .ag) fun hs => ?_
 refine hs.q .F ((by first | exact ok_lenM un65 .ag | exact ok_len un65 .ag | exact ok_lenV un65 .ag)) fun hs => ?_
 refine hs.q .F (ok_nei .ag .ag) fun hs => ?_
 refine hs.o (ok_or .tt .c .pc) fun hs => wpList_nil <| then_n ?_
 refine hs.cond .tt (fun hb1 => ?_) (fun hb1 => ?_)
 ·replace hb1 : sameHead u v = false := by unfold sameHead; rw [hb1]; rfl
  refine wp_seq <| St.region <| hs.sc fun hs => wpList_nil <| then_n <| wp_ret <| then_r <| hs.ret rfl (.cons (.t rfl) ResL.nil) ?_
  exact ret_bool (by rw [verIs_eq, hb1]; rfl)
 ·replace hb1 : sameHead u v = true := by unfold sameHead; rw [hb1]; rfl
  refine wp_skip <| then_n <| wp_seq <| wp_seq <| St.region <| hs.o (ok_fieldP fd94_5 rfl .tt) fun hs => hs.o (ok_load1 ty65 .tt) fun hs => ?_
  refine hs.o ((by first | exact ok_lenM un65 .tt | exact ok_len un65 .tt | exact ok_lenV un65 .tt)) fun hs => ?_
  refine hs.mc fun hs => wpList_nil <| then_n <| wp_block ?_
  refine St.loopS (σ := Nat) (4 :: 5 :: 6 :: 52 :: 53 :: 54 :: 55 :: 56 :: 57 :: 58 :: 59 :: 60 :: 61 :: 62 :: 63 :: 64 :: []) ⟨fun k => [(52, AV.int k)], fun k => [], fun k => k ≤ u.deps.length ∧ ∀ i, i < k → (sameDep u v) i = true⟩ (fun k => u.deps.length - k) 0 hs rfl ?ok1 ?env1 ?round1
  case ok1 => exact ⟨Nat.zero_le _, fun i hi => by omega⟩
  case env1 => exact (Env.le_consE rfl (by rfl) Env.le_nil)
  case round1 =>
   rintro k I a w hok hs
   obtain ⟨hk_k, hall⟩ := hok
   refine wp_seq <| St.region <| hs.o (ok_lss .tt .tt) fun hs => wpList_nil <| then_n <| wp_seq ?_
   refine hs.cond .tt (fun hb2 => ?_) (fun hb2 => ?_)
   ·try simp only [B] at hb2
    refine wp_skip <| then_n <| wp_seq <| wp_block <| wp_seq <| St.region <| hs.m fun hs => ?_
    refine hs.o ((by first | exact ok_idxN un65 ty74 .tt .tt (fun _ => by exact hb2) | exact ok_idxM un65 ty74 .tt .tt (fun _ => by exact hb2) | exact ok_idx un65 ty74 .tt .tt (fun _ => by exact hb2))) fun hs => ?_
    refine hs.o ((by first | exact ok_loadA ty74 .tt rfl | exact ok_loadS ty74 .tt rfl)) fun hs => ?_
    refine hs.alloc rfl ty74 zc74 fun b6 I a w hs => hs.s fun hs => ?_
    refine hs.storeB 0 ty74 .tt .tt rfl (by first | rfl | assumption) rfl fun a w hs => ?_
    obtain ⟨I, hs, hf⟩ := hs.freezeBox 0 rfl
    have hs := hs.upd (t := 6) rfl hf; clear hf
    refine wpList_nil <| then_n <| wp_seq <| hs.dk ?_
    refine .o ((by first | exact ok_loadA ty74 .tt rfl | exact ok_loadS ty74 .tt rfl)) ?_
    refine .o (ok_fieldP fd94_5 rfl .tt) <| .o (ok_load1 ty65 .tt) <| .o (ok_move .tt) ?_
    refine .o ((by first | exact ok_idxN un65 ty74 .tt .tt (fun _ => by have := sameHead_len hb1; omega) | exact ok_idxM un65 ty74 .tt .tt (fun _ => by have := sameHead_len hb1; omega) | exact ok_idx un65 ty74 .tt .tt (fun _ => by have := sameHead_len hb1; omega))) ?_
    refine .o ((by first | exact ok_loadA ty74 .tt rfl | exact ok_loadS ty74 .tt rfl)) ?_
    refine .o (ok_neS [_, _, _] [_, _, _] eqt74 rfl rfl .tt .tt) <| RunK.nil ?_
    intro I a w hs
    refine then_n ?_
    refine hs.cond .tt (fun hb3 => ?_) (fun hb3 => ?_)
    ·rw [deps_neq] at hb3; replace hb3 := nt hb3
     refine wp_seq <| St.region <| hs.sc fun hs => wpList_nil <| then_n <| wp_ret <| block_r <| then_r <| then_r <| block_r <| then_r <| hs.ret rfl (.cons (.t rfl) ResL.nil) ?_
     exact ret_bool (by rw [verIs_eq, allN_false (f := sameDep u v) hb2 hb3]; simp)
    ·rw [deps_neq] at hb3; replace hb3 := nf hb3
     refine wp_skip <| block_n <| then_n <| St.region ?_
     refine hs.o (ok_add .tt .c (fun _ => by omega)) fun hs => ?_
     refine hs.m fun hs => wpList_nil <| then_n ?_
     have hs := hs.drop 0
     refine hs.again (k + 1) ?mu1 ?ok1001 (by rfl) ?env1001 (by repeat (first | exact Env.le_rfl | refine Env.le_push rfl ?_))
     case mu1 => omega
     case ok1001 => exact ⟨by omega, allN_next hall hb3⟩
     case env1001 => exact (Env.le_consE rfl (by first | rfl | (congr 1; done)) Env.le_nil)
   ·try simp only [B] at hb2
    refine wp_exit <| then_x <| then_x <| block_hit <| then_n <| wp_seq <| St.region <| hs.sc fun hs => wpList_nil <| then_n <| wp_ret <| hs.ret rfl (.cons (.t rfl) ResL.nil) ?_
    exact ret_bool (by rw [verIs_eq, hb1, allN_true hall (by omega)]; rfl)

theorem c_impl_Call_keysOk (q : Call) :
    Fn Tryz.prog 246 [q.av] (AV.bool (keysOk q)) := by
 refine Fn.intro 40 Tryz.func246 rfl Tryz.ntmps246 rfl (by kernel_rfl) (fun W I a hs => ?_)
 have lens : q.keys.length ≤ 9223372036854775807 ∧ q.got.length ≤ 9223372036854775807 ∧ q.needs.length ≤ 9223372036854775807 := by
    obtain ⟨cs, _, hc⟩ := hs.env 0 _ rfl
    obtain ⟨u1, _, h1, _⟩ := hc.get (i := 3) rfl
    obtain ⟨u2, _, h2, _⟩ := hc.get (i := 11) rfl
    obtain ⟨u3, _, h3, _⟩ := hc.get (i := 12) rfl
    exact ⟨rows_le h1, rows_le h2, rows_le h3⟩
 refine wp_seq <| St.region <| hs.o (ok_boxP .tt) fun hs => hs.sc fun hs => wpList_nil <| then_n <| wp_seq <| St.region <| hs.sc fun hs => wpList_nil <| then_n <| wp_seq <| wp_seq <| St.region <| hs.o (ok_fieldP fd70_3 rfl .tt) fun hs => hs.o (ok_load1 ty64 .tt) fun hs => ?_
 refine hs.o ((by first | exact ok_lenM un64 .tt | exact ok_len un64 .tt | exact ok_lenV un64 .tt)) fun hs => ?_
 refine hs.mc fun hs => wpList_nil <| then_n <| wp_block ?_
 refine St.loopS (σ := Nat) (2 :: 3 :: 5 :: 9 :: 10 :: 11 :: 12 :: 13 :: 14 :: 15 :: 16 :: 17 :: 18 :: 19 :: []) ⟨fun k => [(9, AV.int k), (3, AV.int (prevInt q.keys k))], fun k => [], fun k => k ≤ q.keys.length ∧ ∀ i, i < k → linkB keyB ltI q.keys i = true⟩ (fun k => q.keys.length - k) 0 hs rfl ?ok1 ?env1 ?round1
 case ok1 => exact ⟨Nat.zero_le _, fun i hi => by omega⟩
 case env1 => exact (Env.le_consE rfl (by rfl) (Env.le_consE rfl (by rfl) Env.le_nil))
 case round1 =>
  rintro k I a w hok hs
  obtain ⟨hk, hall⟩ := hok
  refine wp_seq <| St.region <| hs.o (ok_lss .tt .tt) fun hs => wpList_nil <| then_n <| wp_seq ?_
  refine hs.cond .tt (fun hb1 => ?_) (fun hb1 => ?_)
  ·try simp only [B] at hb1
   refine wp_skip <| then_n <| wp_seq <| wp_block <| wp_seq <| St.region ?_
   refine hs.o ((by first | exact ok_idxN un64 ty3 .tt .tt (fun _ => by exact hb1) | exact ok_idxM un64 ty3 .tt .tt (fun _ => by exact hb1) | exact ok_idx un64 ty3 .tt .tt (fun _ => by exact hb1))) fun hs => ?_
   refine hs.o (ok_load1 ty3 .tt) fun hs => hs.s fun hs => wpList_nil <| then_n <| wp_seq <| wp_seq <| St.region <| hs.m fun hs => hs.m fun hs => ?_
   refine hs.o (ok_add .tt .c (fun _ => by have := prevInt_range hall; omega)) fun hs => ?_
   refine hs.o (ok_call (c_impl_in ..) (args_cons .tt (args_cons .tt (args_cons .c args_nil)))) fun hs => hs.o (ok_not .tt) fun hs => wpList_nil <| then_n ?_
   refine hs.cond .tt (fun hb2 => ?_) (fun hb2 => ?_)
   ·rw [keys_test hall] at hb2; replace hb2 := nt hb2
    refine wp_seq <| St.region <| hs.sc fun hs => wpList_nil <| then_n <| wp_ret <| then_r <| block_r <| then_r <| then_r <| block_r <| then_r <| hs.ret rfl (.cons (.t rfl) ResL.nil) ?_
    exact ret_bool (by unfold keysOk keysUp; rw [allN_false (f := linkB keyB ltI q.keys) hb1 hb2]; rfl)
   ·rw [keys_test hall] at hb2; replace hb2 := nf hb2
    refine wp_skip <| then_n <| St.region <| hs.m fun hs => hs.s fun hs => wpList_nil <| block_n <| then_n <| St.region ?_
    refine hs.o (ok_add .tt .c (fun _ => by omega)) fun hs => ?_
    refine hs.m fun hs => wpList_nil <| then_n ?_
    refine hs.again (k + 1) ?mu1 ?ok1001 (by rfl) ?env1001 (by repeat (first | exact Env.le_rfl | refine Env.le_push rfl ?_))
    case mu1 => omega
    case ok1001 => exact ⟨by omega, allN_next hall hb2⟩
    case env1001 => exact (Env.le_consE rfl (by rfl) (Env.le_consE rfl (by exact congrArg AV.int (prevInt_succ _ _).symm) Env.le_nil))
  ·try simp only [B] at hb1
   refine wp_exit <| then_x <| then_x <| block_hit <| then_n <| wp_seq <| St.region <| hs.o (ok_fieldP fd70_2 rfl .tt) fun hs => hs.o (ok_load1 ty3 .tt) fun hs => hs.o (ok_eqi .tt .c) fun hs => hs.m fun hs => hs.q .T (ok_fieldP fd70_3 rfl .tt) fun hs => hs.q .T (ok_load1 ty64 .ag) fun hs => ?_
   refine hs.q .T ((by first | exact ok_lenM un64 .ag | exact ok_len un64 .ag | exact ok_lenV un64 .ag)) fun hs => ?_
   refine hs.q .T (ok_eqi .ag .c) fun hs => ?_
   refine hs.o (ok_and .tt .pc .c) fun hs => hs.m fun hs => hs.q .F (ok_fieldP fd70_2 rfl .tt) fun hs => hs.q .F (ok_load1 ty3 .ag) fun hs => ?_
   refine hs.q .F (ok_eqi .ag .c) fun hs => ?_
   refine hs.q .F (ok_move .ag) fun hs => ?_
   refine hs.q .T2 (ok_fieldP fd70_3 rfl .tt) fun hs => hs.q .T2 (ok_load1 ty64 .ag) fun hs => ?_
   refine hs.q .T2 ((by first | exact ok_lenM un64 .ag | exact ok_len un64 .ag | exact ok_lenV un64 .ag)) fun hs => ?_
   refine hs.q .T2 (ok_call (c_impl_in ..) (args_cons .ag (args_cons .c (args_cons .c args_nil)))) fun hs => ?_
   refine hs.q .F (ok_and .ag .pc .c) fun hs => ?_
   refine hs.o (ok_or .tt .c .pc) fun hs => hs.s fun hs => wpList_nil <| then_n <| wp_ret <| hs.ret rfl (.cons (.t rfl) ResL.nil) ?_
   exact ret_bool (by unfold keysOk keysUp; rw [allN_true hall (by omega)]; rfl)

set_option maxHeartbeats 4000000 in
theorem c_impl_Call_gotOk (q : Call) :
    Fn Tryz.prog 247 [q.av] (AV.bool (gotOk q)) := by
 refine Fn.intro 100 Tryz.func247 rfl Tryz.ntmps247 rfl (by kernel_rfl) (fun W I a hs => ?_)
 have lens : q.keys.length ≤ 9223372036854775807 ∧ q.got.length ≤ 9223372036854775807 ∧ q.needs.length ≤ 9223372036854775807 := by
    obtain ⟨cs, _, hc⟩ := hs.env 0 _ rfl
    obtain ⟨u1, _, h1, _⟩ := hc.get (i := 3) rfl
    obtain ⟨u2, _, h2, _⟩ := hc.get (i := 11) rfl
    obtain ⟨u3, _, h3, _⟩ := hc.get (i := 12) rfl
    exact ⟨rows_le h1, rows_le h2, rows_le h3⟩
 refine wp_seq <| St.region <| hs.o (ok_boxP .tt) fun hs => hs.sc fun hs => wpList_nil <| then_n <| wp_seq <| wp_seq <| St.region <| hs.o (ok_fieldP fd70_10 rfl .tt) fun hs => hs.o (ok_load1 ty68 .tt) fun hs => ?_
 refine hs.o ((by first | exact ok_lenM un68 .tt | exact ok_len un68 .tt | exact ok_lenV un68 .tt)) fun hs => ?_
 refine hs.mc fun hs => wpList_nil <| then_n <| wp_block ?_
 refine St.loopS (σ := Nat) (2 :: 3 :: 4 :: 11 :: 12 :: 13 :: 14 :: 15 :: 16 :: 17 :: 18 :: 19 :: 20 :: 21 :: 22 :: 23 :: 24 :: 25 :: 26 :: 27 :: 28 :: 29 :: 30 :: 31 :: 32 :: 33 :: 34 :: 35 :: 36 :: 37 :: 38 :: 39 :: 40 :: 41 :: 42 :: 43 :: 44 :: 45 :: 46 :: 47 :: 48 :: 49 :: 50 :: 51 :: 52 :: 53 :: 54 :: 55 :: 56 :: 57 :: 58 :: 59 :: 60 :: 61 :: 62 :: 63 :: 64 :: 65 :: 66 :: []) ⟨fun k => [(11, AV.int k)], fun k => [], fun k => k ≤ q.got.length ∧ ∀ i, i < k → (ansAt q) i = true⟩ (fun k => q.got.length - k) 0 hs rfl ?ok1 ?env1 ?round1
 case ok1 => exact ⟨Nat.zero_le _, fun i hi => by omega⟩
 case env1 => exact (Env.le_consE rfl (by rfl) Env.le_nil)
 case round1 =>
  rintro k I a w hok hs
  obtain ⟨hk_k, hall⟩ := hok
  refine wp_seq <| St.region <| hs.o (ok_lss .tt .tt) fun hs => wpList_nil <| then_n <| wp_seq ?_
  refine hs.cond .tt (fun hb1 => ?_) (fun hb1 => ?_)
  ·try simp only [B] at hb1
   refine wp_skip <| then_n <| wp_seq <| wp_block <| wp_seq <| St.region <| hs.m fun hs => ?_
   refine hs.o ((by first | exact ok_idxN un68 ty140 .tt .tt (fun _ => by exact hb1) | exact ok_idxM un68 ty140 .tt .tt (fun _ => by exact hb1) | exact ok_idx un68 ty140 .tt .tt (fun _ => by exact hb1))) fun hs => ?_
   refine hs.o ((by first | exact ok_loadA ty140 .tt rfl | exact ok_loadS ty140 .tt rfl)) fun hs => ?_
   refine hs.alloc rfl ty140 zc140 fun b4 I a w hs => hs.s fun hs => ?_
   refine hs.storeB 0 ty140 .tt .tt rfl (by first | rfl | assumption) rfl fun a w hs => ?_
   obtain ⟨I, hs, hf⟩ := hs.freezeBox 0 rfl
   have hs := hs.upd (t := 4) rfl hf; clear hf
   refine wpList_nil <| then_n <| wp_seq <| wp_seq <| hs.dk <| .o (ok_fieldP fd70_3 rfl .tt) <| .o (ok_load1 ty64 .tt) <| .o (ok_fieldP fd140_0 rfl .tt) <| .o (ok_load1 ty3 .tt) ?_
   refine .o (ok_call (c_slices_Contains_int_int ..) (args_cons .r (args_cons .tt args_nil))) ?_
   refine .o (ok_not .tt) <| .o (ok_move .tt) <| .q .F (ok_move .tt) <| .q .F (ok_gtr .ag .c) ?_
   refine .q .F (ok_move .ag) ?_
   refine .q .T2 (ok_fieldP fd140_0 rfl .tt) <| .q .T2 (ok_load1 ty3 .ag) ?_
   refine .q .T2 (ok_fieldP fd70_10 rfl .tt) <| .q .T2 (ok_load1 ty68 .ag) ?_
   refine .q .T2 (ok_move .tt) ?_
   refine .q .T2 (ok_sub .ag .c (fun hg => by simp at hg; omega)) ?_
   refine .q .T2 ((by first | exact ok_idxN un68 ty140 .ag .ag (fun hg => by simp at hg; omega) | exact ok_idxM un68 ty140 .ag .ag (fun hg => by simp at hg; omega) | exact ok_idx un68 ty140 .ag .ag (fun hg => by simp at hg; omega))) ?_
   refine .q .T2 (ok_fieldP fd140_0 rfl .ag) ?_
   refine .q .T2 (ok_load1 ty3 .ag) ?_
   refine .q .T2 (ok_leq .ag .ag) ?_
   refine .q .F (ok_and .ag .pc .c) ?_
   refine .o (ok_or .tt .c .pc) <| RunK.nil ?_
   intro I a w hs
   refine then_n ?_
   refine hs.cond .tt (fun hb2 => ?_) (fun hb2 => ?_)
   ·rw [ans_test] at hb2; replace hb2 := nt hb2
    refine wp_seq <| St.region <| hs.sc fun hs => wpList_nil <| then_n <| wp_ret <| then_r <| block_r <| then_r <| then_r <| block_r <| then_r <| hs.ret rfl (.cons (.t rfl) ResL.nil) ?_
    exact ret_bool (by unfold gotOk gotsOk; rw [allN_false (f := ansAt q) hb1 (by unfold ansAt; rw [hb2]; rfl)]; rfl)
   ·rw [ans_test] at hb2; replace hb2 := nf hb2
    refine wp_skip <| then_n <| wp_seq <| St.region <| hs.o (ok_fieldP fd140_1 rfl .tt) fun hs => hs.o (ok_load1 ty4 .tt) fun hs => hs.m fun hs => hs.q .T (ok_fieldP fd140_2 rfl .tt) fun hs => ?_
    refine hs.q .T ((by first | exact ok_loadA ty94 .ag rfl | exact ok_loadS ty94 .ag rfl)) fun hs => ?_
    refine hs.q .T (ok_call (c_impl_VerOk ..) (args_cons .ag args_nil)) fun hs => ?_
    refine hs.q .T (ok_not .ag) fun hs => ?_
    refine hs.q .T (ok_move .ag) fun hs => ?_
    refine hs.q .F2 (ok_fieldP fd140_2 rfl .tt) fun hs => hs.q .F2 (ok_fieldP fd94_0 rfl .ag) fun hs => ?_
    refine hs.q .F2 (ok_load1 ty3 .ag) fun hs => ?_
    refine hs.q .F2 (ok_fieldP fd140_0 rfl .tt) fun hs => hs.q .F2 (ok_load1 ty3 .ag) fun hs => ?_
    refine hs.q .F2 (ok_nei .ag .ag) fun hs => ?_
    refine hs.q .T (ok_or .ag .c .pc) fun hs => ?_
    refine hs.o (ok_and .tt .pc .c) fun hs => hs.m fun hs => hs.q .F (ok_fieldP fd140_1 rfl .tt) fun hs => hs.q .F (ok_load1 ty4 .ag) fun hs => ?_
    refine hs.q .F (ok_not .ag) fun hs => ?_
    refine hs.q .F (ok_move .ag) fun hs => ?_
    refine hs.q .T2 (ok_fieldP fd140_2 rfl .tt) fun hs => ?_
    refine hs.q .T2 ((by first | exact ok_loadA ty94 .ag rfl | exact ok_loadS ty94 .ag rfl)) fun hs => ?_
    refine hs.q .T2 (ok_build (l0 := [AV.val (.int .i64 0), AV.val (.int .i64 0), AV.val (.int .i64 0), AV.val (.int .i64 0), AV.val (.int .i64 0), AV.val (.int .i64 0), AV.rows 3 []]) ty94 fk94 zc94 rfl Parts.nil) fun hs => hs.q .T2 (ok_call (c_impl_Ver_same _ ver0) (args_cons .ag (args_cons .ag args_nil))) fun hs => ?_
    refine hs.q .T2 (ok_not .ag) fun hs => ?_
    refine hs.q .F (ok_and .ag .pc .c) fun hs => ?_
    refine hs.o (ok_or .tt .c .pc) fun hs => wpList_nil <| then_n ?_
    refine hs.cond .tt (fun hb3 => ?_) (fun hb3 => ?_)
    ·rw [good_test] at hb3; replace hb3 := nt hb3
     refine wp_seq <| St.region <| hs.sc fun hs => wpList_nil <| then_n <| wp_ret <| block_r <| then_r <| then_r <| block_r <| then_r <| hs.ret rfl (.cons (.t rfl) ResL.nil) ?_
     exact ret_bool (by unfold gotOk gotsOk; rw [allN_false (f := ansAt q) hb1 (by unfold ansAt; rw [hb2, hb3]; rfl)]; rfl)
    ·rw [good_test] at hb3; replace hb3 := nf hb3
     refine wp_skip <| block_n <| then_n <| St.region ?_
     refine hs.o (ok_add .tt .c (fun _ => by omega)) fun hs => ?_
     refine hs.m fun hs => wpList_nil <| then_n ?_
     have hs := hs.drop 0
     refine hs.again (k + 1) ?mu1 ?ok1001 (by rfl) ?env1001 (by repeat (first | exact Env.le_rfl | refine Env.le_push rfl ?_))
     case mu1 => omega
     case ok1001 => exact ⟨by omega, allN_next hall (by unfold ansAt; rw [hb2, hb3]; rfl)⟩
     case env1001 => exact (Env.le_consE rfl (by first | rfl | (congr 1; done)) Env.le_nil)
  ·try simp only [B] at hb1
   refine wp_exit <| then_x <| then_x <| block_hit <| then_n <| wp_seq <| wp_seq <| St.region <| hs.o (ok_fieldP fd70_11 rfl .tt) fun hs => hs.o (ok_load1 ty65 .tt) fun hs => ?_
   refine hs.o ((by first | exact ok_lenM un65 .tt | exact ok_len un65 .tt | exact ok_lenV un65 .tt)) fun hs => ?_
   refine hs.mc fun hs => wpList_nil <| then_n <| wp_block ?_
   refine St.loopS (σ := Nat) (2 :: 6 :: 7 :: 70 :: 71 :: 72 :: 73 :: 74 :: 75 :: 76 :: 77 :: 78 :: 79 :: 80 :: 81 :: 82 :: 83 :: 84 :: 85 :: 86 :: 87 :: 88 :: 89 :: 90 :: 91 :: []) ⟨fun k2 => [(70, AV.int k2)], fun k2 => [], fun k2 => k2 ≤ q.needs.length ∧ ∀ i, i < k2 → (needAt q) i = true⟩ (fun k2 => q.needs.length - k2) 0 hs rfl ?ok2 ?env2 ?round2
   case ok2 => exact ⟨Nat.zero_le _, fun i hi => by omega⟩
   case env2 => exact (Env.le_consE rfl (by rfl) Env.le_nil)
   case round2 =>
    rintro k2 I a w hok hs
    obtain ⟨hk_k2, hall2⟩ := hok
    refine wp_seq <| St.region <| hs.o (ok_lss .tt .tt) fun hs => wpList_nil <| then_n <| wp_seq ?_
    refine hs.cond .tt (fun hb4 => ?_) (fun hb4 => ?_)
    ·try simp only [B] at hb4
     refine wp_skip <| then_n <| wp_seq <| wp_block <| wp_seq <| St.region ?_
     refine hs.o ((by first | exact ok_idxN un65 ty74 .tt .tt (fun _ => by exact hb4) | exact ok_idxM un65 ty74 .tt .tt (fun _ => by exact hb4) | exact ok_idx un65 ty74 .tt .tt (fun _ => by exact hb4))) fun hs => ?_
     refine hs.o ((by first | exact ok_loadA ty74 .tt rfl | exact ok_loadS ty74 .tt rfl)) fun hs => ?_
     refine hs.alloc rfl ty74 zc74 fun b6 I a w hs => ?_
     refine hs.storeB 0 ty74 .tt .tt rfl (by first | rfl | assumption) rfl fun a w hs => ?_
     obtain ⟨I, hs, hf⟩ := hs.freezeBox 0 rfl
     have hs := hs.upd (t := 6) rfl hf; clear hf
     refine wpList_nil <| then_n <| wp_seq <| St.region ?_
     refine hs.o ((by first | exact ok_loadA ty70 .tt rfl | exact ok_loadS ty70 .tt rfl)) fun hs => ?_
     refine hs.o (ok_fieldP fd74_0 rfl .tt) fun hs => hs.o (ok_load1 ty3 .tt) fun hs => hs.o (ok_call (c_impl_Call_got ..) (args_cons .tt (args_cons .tt args_nil))) fun hs => hs.s fun hs => wpList_nil <| then_n <| wp_seq <| hs.dk <| .o (ok_move .tt) <| .o (ok_lss .tt .c) <| .o (ok_move .tt) <| .q .F (ok_fieldP fd70_10 rfl .tt) <| .q .F (ok_load1 ty68 .ag) ?_
     refine .q .F (ok_move .tt) ?_
     refine .q .F ((by first | exact ok_idxN un68 ty140 .ag .ag (fun hg => by have h0 : 0 ≤ gotI q (elt q.needs k2).key := (by simpa using hg); have := gotI_lt h0; omega) | exact ok_idxM un68 ty140 .ag .ag (fun hg => by have h0 : 0 ≤ gotI q (elt q.needs k2).key := (by simpa using hg); have := gotI_lt h0; omega) | exact ok_idx un68 ty140 .ag .ag (fun hg => by have h0 : 0 ≤ gotI q (elt q.needs k2).key := (by simpa using hg); have := gotI_lt h0; omega))) ?_
     refine .q .F ((by first | exact ok_loadA ty140 .ag rfl | exact ok_loadS ty140 .ag rfl)) ?_
     refine .q .F (ok_fieldP fd74_1 rfl .tt) ?_
     refine .q .F ((by first | exact ok_loadA ty67 .ag rfl | exact ok_loadS ty67 .ag rfl)) ?_
     refine .q .F (ok_call (c_impl_Answer_older ..) (args_cons .ag (args_cons .ag args_nil))) ?_
     refine .q .F (ok_not .ag) ?_
     refine .o (ok_or .tt .c .pc) <| RunK.nil ?_
     intro I a w hs
     refine then_n ?_
     refine hs.cond .tt (fun hb5 => ?_) (fun hb5 => ?_)
     ·rw [need_test] at hb5; replace hb5 := nt hb5
      refine wp_seq <| St.region <| hs.sc fun hs => wpList_nil <| then_n <| wp_ret <| block_r <| then_r <| then_r <| block_r <| then_r <| hs.ret rfl (.cons (.t rfl) ResL.nil) ?_
      exact ret_bool (by unfold gotOk gotsOk; rw [allN_true hall (by omega), allN_false (f := needAt q) hb4 hb5]; rfl)
     ·rw [need_test] at hb5; replace hb5 := nf hb5
      refine wp_skip <| block_n <| then_n <| St.region ?_
      refine hs.o (ok_add .tt .c (fun _ => by omega)) fun hs => ?_
      refine hs.m fun hs => wpList_nil <| then_n ?_
      have hs := hs.drop 0
      refine hs.again (k2 + 1) ?mu2 ?ok1002 (by rfl) ?env1002 (by repeat (first | exact Env.le_rfl | refine Env.le_push rfl ?_))
      case mu2 => omega
      case ok1002 => exact ⟨by omega, allN_next hall2 hb5⟩
      case env1002 => exact (Env.le_consE rfl (by first | rfl | (congr 1; done)) Env.le_nil)
    ·try simp only [B] at hb4
     refine wp_exit <| then_x <| then_x <| block_hit <| then_n <| wp_seq <| St.region <| hs.o (ok_fieldP fd70_11 rfl .tt) fun hs => hs.o (ok_load1 ty65 .tt) fun hs => ?_
     refine hs.o ((by first | exact ok_lenM un65 .tt | exact ok_len un65 .tt | exact ok_lenV un65 .tt)) fun hs => ?_
     refine hs.o (ok_eqi .tt .c) fun hs => hs.m fun hs => ?_
     refine hs.q .F ((by first | exact ok_loadA ty70 .tt rfl | exact ok_loadS ty70 .tt rfl)) fun hs => ?_
     refine hs.q .F (ok_call (c_impl_Call_answered ..) (args_cons .ag args_nil)) fun hs => ?_
     refine hs.o (ok_or .tt .c .pc) fun hs => hs.s fun hs => wpList_nil <| then_n <| wp_ret <| hs.ret rfl (.cons (.t rfl) ResL.nil) ?_
     exact ret_bool (by unfold gotOk gotsOk; rw [allN_true hall (by omega), allN_true hall2 (by omega)]; rfl)

set_option maxHeartbeats 4000000 in
theorem c_impl_CallOk (q : Call) (time : Int) (ht : time ≤ 4611686018427387904) :
    Fn Tryz.prog 196 [q.av, AV.int time] (AV.bool (callOk q time)) := by
 refine Fn.intro 125 Tryz.func196 rfl Tryz.ntmps196 rfl (by kernel_rfl) (fun W I a hs => ?_)
 have lens : q.keys.length ≤ 9223372036854775807 ∧ q.got.length ≤ 9223372036854775807 ∧ q.needs.length ≤ 9223372036854775807 := by
    obtain ⟨cs, _, hc⟩ := hs.env 0 _ rfl
    obtain ⟨u1, _, h1, _⟩ := hc.get (i := 3) rfl
    obtain ⟨u2, _, h2, _⟩ := hc.get (i := 11) rfl
    obtain ⟨u3, _, h3, _⟩ := hc.get (i := 12) rfl
    exact ⟨rows_le h1, rows_le h2, rows_le h3⟩
 refine wp_seq <| St.region <| hs.o (ok_boxP .tt) fun hs => hs.sc fun hs => wpList_nil <| then_n <| wp_seq <| wp_seq <| St.region <| hs.o (ok_fieldP fd70_0 rfl .tt) fun hs => hs.o (ok_load1 ty3 .tt) fun hs => hs.o (ok_call (c_impl_isClient ..) (args_cons .tt args_nil)) fun hs => hs.o (ok_not .tt) fun hs => hs.m fun hs => hs.q .F (ok_fieldP fd70_1 rfl .tt) fun hs => hs.q .F (ok_load1 ty3 .ag) fun hs => ?_
 refine hs.q .F (ok_call (c_impl_in ..) (args_cons .ag (args_cons .c (args_cons .c args_nil)))) fun hs => ?_
 refine hs.q .F (ok_not .ag) fun hs => ?_
 refine hs.o (ok_or .tt .c .pc) fun hs => hs.m fun hs => ?_
 refine hs.q .F ((by first | exact ok_loadA ty70 .tt rfl | exact ok_loadS ty70 .tt rfl)) fun hs => ?_
 refine hs.q .F (ok_call (c_impl_Call_keysOk ..) (args_cons .ag args_nil)) fun hs => ?_
 refine hs.q .F (ok_not .ag) fun hs => ?_
 refine hs.o (ok_or .tt .c .pc) fun hs => hs.m fun hs => hs.q .F (ok_fieldP fd70_4 rfl .tt) fun hs => hs.q .F (ok_load1 ty3 .ag) fun hs => ?_
 refine hs.q .F (ok_call (c_impl_in ..) (args_cons .ag (args_cons .c (args_cons .c args_nil)))) fun hs => ?_
 refine hs.q .F (ok_not .ag) fun hs => ?_
 refine hs.o (ok_or .tt .c .pc) fun hs => hs.m fun hs => hs.q .F (ok_fieldP fd70_5 rfl .tt) fun hs => hs.q .F (ok_load1 ty65 .ag) fun hs => ?_
 refine hs.q .F (ok_call (c_impl_DepsOk ..) (args_cons .ag args_nil)) fun hs => ?_
 refine hs.q .F (ok_not .ag) fun hs => ?_
 refine hs.o (ok_or .tt .c .pc) fun hs => hs.m fun hs => hs.q .F (ok_fieldP fd70_11 rfl .tt) fun hs => hs.q .F (ok_load1 ty65 .ag) fun hs => ?_
 refine hs.q .F (ok_call (c_impl_DepsOk ..) (args_cons .ag args_nil)) fun hs => ?_
 refine hs.q .F (ok_not .ag) fun hs => ?_
 refine hs.o (ok_or .tt .c .pc) fun hs => hs.m fun hs => hs.q .F (ok_fieldP fd70_6 rfl .tt) fun hs => hs.q .F (ok_load1 ty3 .ag) fun hs => ?_
 refine hs.q .F (ok_move .tt) fun hs => hs.q .F (ok_call (c_impl_in ..) (args_cons .ag (args_cons .c (args_cons .ag args_nil)))) fun hs => ?_
 refine hs.q .F (ok_not .ag) fun hs => ?_
 refine hs.o (ok_or .tt .c .pc) fun hs => hs.m fun hs => hs.q .F (ok_fieldP fd70_9 rfl .tt) fun hs => ?_
 refine hs.q .F ((by first | exact ok_loadA ty67 .ag rfl | exact ok_loadS ty67 .ag rfl)) fun hs => ?_
 refine hs.q .F (ok_call (c_impl_stampFits ..) (args_cons .ag args_nil)) fun hs => ?_
 refine hs.q .F (ok_not .ag) fun hs => ?_
 refine hs.o (ok_or .tt .c .pc) fun hs => hs.m fun hs => ?_
 refine hs.q .F ((by first | exact ok_loadA ty70 .tt rfl | exact ok_loadS ty70 .tt rfl)) fun hs => ?_
 refine hs.q .F (ok_call (c_impl_Call_gotOk ..) (args_cons .ag args_nil)) fun hs => ?_
 refine hs.q .F (ok_not .ag) fun hs => ?_
 refine hs.o (ok_or .tt .c .pc) fun hs => wpList_nil <| then_n ?_
 refine hs.cond .tt (fun hb1 => ?_) (fun hb1 => ?_)
 ·rw [head_test] at hb1; replace hb1 := nt hb1
  refine wp_seq <| St.region <| hs.sc fun hs => wpList_nil <| then_n <| wp_ret <| then_r <| hs.ret rfl (.cons (.t rfl) ResL.nil) ?_
  exact ret_bool (by unfold callOk; rw [hb1]; rfl)
 ·rw [head_test] at hb1; replace hb1 := nf hb1
  refine wp_skip <| then_n <| wp_seq <| St.region <| hs.o (ok_fieldP fd70_2 rfl .tt) fun hs => hs.o (ok_load1 ty3 .tt) fun hs => hs.o (ok_eqi .tt .c) fun hs => hs.s fun hs => wpList_nil <| then_n <| wp_seq <| wp_seq <| St.region <| hs.m fun hs => hs.m fun hs => hs.q .T (ok_fieldP fd70_10 rfl .tt) fun hs => hs.q .T (ok_load1 ty68 .ag) fun hs => ?_
  refine hs.q .T ((by first | exact ok_lenM un68 .ag | exact ok_len un68 .ag | exact ok_lenV un68 .ag)) fun hs => ?_
  refine hs.q .T (ok_fieldP fd70_11 rfl .tt) fun hs => hs.q .T (ok_load1 ty65 .ag) fun hs => ?_
  refine hs.q .T ((by first | exact ok_lenM un65 .ag | exact ok_len un65 .ag | exact ok_lenV un65 .ag)) fun hs => ?_
  refine hs.q .T (ok_add .ag .ag (fun hg => by have := head_lens hb1; omega)) fun hs => ?_
  refine hs.q .T (ok_gtr .ag .c) fun hs => ?_
  refine hs.o (ok_and .tt .pc .c) fun hs => hs.m fun hs => hs.q .F (ok_move .tt) fun hs => hs.q .F (ok_not .ag) fun hs => ?_
  refine hs.q .F (ok_move .ag) fun hs => ?_
  refine hs.q .T2 (ok_fieldP fd70_4 rfl .tt) fun hs => hs.q .T2 (ok_load1 ty3 .ag) fun hs => ?_
  refine hs.q .T2 (ok_nei .ag .c) fun hs => ?_
  refine hs.q .T2 (ok_move .ag) fun hs => ?_
  refine hs.q .F2 (ok_fieldP fd70_9 rfl .tt) fun hs => ?_
  refine hs.q .F2 ((by first | exact ok_loadA ty67 .ag rfl | exact ok_loadS ty67 .ag rfl)) fun hs => ?_
  refine hs.q .F2 (ok_call (c_impl_Stamp_none ..) (args_cons .ag args_nil)) fun hs => ?_
  refine hs.q .F2 (ok_not .ag) fun hs => ?_
  refine hs.q .T2 (ok_or .ag .c .pc) fun hs => ?_
  refine hs.q .F (ok_and .ag .pc .c) fun hs => ?_
  refine hs.o (ok_or .tt .c .pc) fun hs => wpList_nil <| then_n ?_
  refine hs.cond .tt (fun hb2 => ?_) (fun hb2 => ?_)
  ·rw [mid_test] at hb2; replace hb2 := nt hb2
   refine wp_seq <| St.region <| hs.sc fun hs => wpList_nil <| then_n <| wp_ret <| then_r <| hs.ret rfl (.cons (.t rfl) ResL.nil) ?_
   exact ret_bool (by unfold callOk; rw [hb1, hb2]; rfl)
  ·rw [mid_test] at hb2; replace hb2 := nf hb2
   refine wp_skip <| then_n <| wp_seq <| wp_seq <| St.region <| hs.o (ok_fieldP fd70_7 rfl .tt) fun hs => hs.o (ok_load1 ty3 .tt) fun hs => hs.o (ok_eqi .tt .c) fun hs => wpList_nil <| then_n ?_
   refine hs.cond .tt (fun hb3 => ?_) (fun hb3 => ?_)
   ·try simp only [B] at hb3
    refine wp_seq <| St.region <| hs.o (ok_fieldP fd70_9 rfl .tt) fun hs => ?_
    refine hs.o ((by first | exact ok_loadA ty67 .tt rfl | exact ok_loadS ty67 .tt rfl)) fun hs => ?_
    refine hs.o (ok_call (c_impl_Stamp_none ..) (args_cons .tt args_nil)) fun hs => hs.s fun hs => wpList_nil <| then_n <| wp_ret <| then_r <| hs.ret rfl (.cons (.t rfl) ResL.nil) ?_
    exact ret_bool (by unfold callOk callEnd; rw [hb1, hb2, if_pos hb3]; rfl)
   ·try simp only [B] at hb3
    refine wp_skip <| then_n <| wp_seq <| wp_seq <| St.region <| hs.o (ok_fieldP fd70_8 rfl .tt) fun hs => hs.o (ok_load1 ty4 .tt) fun hs => hs.m fun hs => hs.q .F (ok_fieldP fd70_7 rfl .tt) fun hs => hs.q .F (ok_load1 ty3 .ag) fun hs => ?_
    refine hs.q .F (ok_fieldP fd70_6 rfl .tt) fun hs => hs.q .F (ok_load1 ty3 .ag) fun hs => ?_
    refine hs.q .F (ok_add .ag .c (fun hg => by have := head_begin hb1; omega)) fun hs => ?_
    refine hs.q .F (ok_move .tt) fun hs => hs.q .F (ok_call (c_impl_in ..) (args_cons .ag (args_cons .ag (args_cons .ag args_nil)))) fun hs => ?_
    refine hs.q .F (ok_not .ag) fun hs => ?_
    refine hs.o (ok_or .tt .c .pc) fun hs => hs.m fun hs => hs.q .F (ok_fieldP fd70_11 rfl .tt) fun hs => hs.q .F (ok_load1 ty65 .ag) fun hs => ?_
    refine hs.q .F ((by first | exact ok_lenM un65 .ag | exact ok_len un65 .ag | exact ok_lenV un65 .ag)) fun hs => ?_
    refine hs.q .F (ok_gtr .ag .c) fun hs => ?_
    refine hs.o (ok_or .tt .c .pc) fun hs => wpList_nil <| then_n ?_
    refine hs.cond .tt (fun hb4 => ?_) (fun hb4 => ?_)
    ·skip
     refine wp_seq <| St.region <| hs.sc fun hs => wpList_nil <| then_n <| wp_ret <| then_r <| hs.ret rfl (.cons (.t rfl) ResL.nil) ?_
     exact ret_bool (by unfold callOk callEnd; rw [hb1, hb2, if_neg hb3, hb4]; rfl)
    ·skip
     refine wp_skip <| then_n <| wp_seq <| St.region <| hs.m fun hs => hs.m fun hs => hs.q .T (ok_fieldP fd70_9 rfl .tt) fun hs => ?_
     refine hs.q .T ((by first | exact ok_loadA ty67 .ag rfl | exact ok_loadS ty67 .ag rfl)) fun hs => ?_
     refine hs.q .T (ok_call (c_impl_Stamp_none ..) (args_cons .ag args_nil)) fun hs => ?_
     refine hs.q .T (ok_not .ag) fun hs => ?_
     refine hs.o (ok_and .tt .pc .c) fun hs => hs.m fun hs => hs.q .F (ok_move .tt) fun hs => hs.q .F (ok_not .ag) fun hs => ?_
     refine hs.q .F (ok_move .ag) fun hs => ?_
     refine hs.q .T2 ((by first | exact ok_loadA ty70 .tt rfl | exact ok_loadS ty70 .tt rfl)) fun hs => ?_
     refine hs.q .T2 (ok_call (c_impl_Call_answered ..) (args_cons .ag args_nil)) fun hs => ?_
     refine hs.q .F (ok_and .ag .pc .c) fun hs => ?_
     refine hs.o (ok_or .tt .c .pc) fun hs => hs.s fun hs => wpList_nil <| then_n <| wp_ret <| hs.ret rfl (.cons (.t rfl) ResL.nil) ?_
     exact ret_bool (by unfold callOk callEnd; rw [hb1, hb2, if_neg hb3, hb4]; rfl)

end Go.Proofs.YtlppgilifnkapaaGreat
