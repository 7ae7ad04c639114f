/- Walks: the reference of places and servers. -/
import Derived.Test.YtlppgilifnkapaaGreatServ2
import Derived.Test.YtlppgilifnkapaaGreatDraw3
set_option linter.unusedVariables false
set_option linter.unusedSimpArgs false
set_option maxRecDepth 100000
namespace Go.Proofs.YtlppgilifnkapaaGreat
open Go Go.RowKit


theorem depsFrom_len : ∀ (l : List Dep) (last : Int), depsFrom last l = true → last ≤ 5 → (l.length : Int) ≤ 5 - last
  | [], last, _, h => by simp; omega
  | d :: r, last, h, hl => by
    simp only [depsFrom, Bool.and_eq_true, inB, decide_eq_true_eq] at h
    have := depsFrom_len r d.key h.2 (by omega)
    simp; omega
theorem depsOk_len {l : List Dep} (h : depsOk l = true) : l.length ≤ 6 := by
  have := depsFrom_len l (-1) h (by omega); omega
theorem verOk_deps {v : Ver} (h : verOk v = true) : v.deps.length ≤ 6 := by
  simp only [verOk, Bool.and_eq_true] at h; exact depsOk_len h.1.2
def chainAt (l : List Ver) (d : Dep) : Option Ver := if chainOk l = true ∧ 0 ≤ placeOf l d then some (elt l (placeOf l d).toNat) else none
theorem at_test (key : Int) (st : Stamp) (v : Ver) : ((v.key == key) && ([v.stamp.time, v.stamp.site] == [st.time, st.site])) = depIs ⟨key, st⟩ v := by
  obtain ⟨t, s⟩ := st
  obtain ⟨vk, ⟨vt, vs⟩, _, _, _, _⟩ := v
  rw [Bool.eq_iff_iff]; simp [depIs, Ver.dep]
theorem chainAt_hit {l : List Ver} {d : Dep} {k : Nat} (hc : chainOk l = true) (hk : k < l.length) (h : ∀ i, i < k → depIs d (elt l i) = false) (hp : depIs d (elt l k) = true) : chainAt l d = some (elt l k) := by
  have e : placeOf l d = k := idx_hit hk h hp
  unfold chainAt; rw [e, if_pos ⟨hc, by omega⟩]; rfl
theorem chainAt_none {l : List Ver} {d : Dep} {k : Nat} (hk : l.length ≤ k) (h : ∀ i, i < k → depIs d (elt l i) = false) : chainAt l d = none := by
  have e : placeOf l d = -1 := idx_none hk h
  unfold chainAt; rw [e, if_neg (by omega)]
theorem chainAt_bad {l : List Ver} {d : Dep} (h : chainOk l = false) : chainAt l d = none := by
  unfold chainAt; rw [if_neg (by rw [h]; simp)]
theorem chainAt_some {l : List Ver} {d : Dep} (hc : chainOk l = true) : (chainAt l d).isSome = decide (0 ≤ placeOf l d) := by
  unfold chainAt
  by_cases h : 0 ≤ placeOf l d
  · rw [if_pos ⟨hc, h⟩]; simp [h]
  · rw [if_neg (by simp [h])]; simp [h]

theorem c_spec_l2Copy (v : Ver) (h : v.deps.length ≤ 1048576) :
    Fn Tryz.prog 155 [v.av] (v.av) := by
 refine Fn.intro 9 Tryz.func155 rfl Tryz.ntmps155 rfl (by kernel_rfl) (fun W I a hs => ?_)
 refine wp_seq <| St.region <| hs.box rfl .tt fun b1 I a w hs => hs.alloc rfl ty94 zc94 fun b2 I a w hs => wpList_nil <| then_n <| wp_seq <| St.region ?_
 refine hs.lit0 rfl un65 ty74 (by decide) fun b3 I a w hs => ?_
 refine hs.o (ok_fieldV fd94_5 rfl .tt) fun hs => hs.o (ok_loadB 0 ty65 .tt rfl rfl) fun hs => ?_
 refine hs.append 2 rfl un65 ty74 rfl .tt .r rfl (by simp; omega) fun v6 a w hs => ?_
 obtain ⟨I, hs, hf⟩ := hs.freezeRow 2 rfl
 have hs := hs.upd (t := 6) rfl hf
 refine hs.o (ok_fieldV fd94_5 rfl .tt) fun hs => ?_
 refine hs.store1 0 ty65 .tt .r (by first | exact one_val rfl | exact one_rows | exact one_ptr | exact one_fn) rfl rfl fun a w hs => ?_
 refine wpList_nil <| then_n <| wp_seq <| St.region <| hs.o (ok_loadBS 0 ty94 .tt rfl rfl rfl) fun hs => ?_
 refine hs.storeB 1 ty94 .tt .tt rfl (by first | rfl | assumption) rfl fun a w hs => ?_
 refine wpList_nil <| then_n <| wp_ret ?_
 refine hs.ret rfl (.cons (.s 1 ty94 rfl rfl (by first | rfl | assumption)) ResL.nil) ?_
 rfl

theorem c_spec_ChainAt (l : List Ver) (key : Int) (st : Stamp) :
    Fn Tryz.prog 170 [versAV l, AV.int key, st.av] (AV.tup [((chainAt l ⟨key, st⟩).getD default).av, AV.bool (chainAt l ⟨key, st⟩).isSome]) := by
 refine Fn.intro 41 Tryz.func170 rfl Tryz.ntmps170 rfl (by kernel_rfl) (fun W I a hs => ?_)
 have hle := hs.lenleM (t := 0) rfl
 refine wp_seq <| St.region <| hs.o (ok_boxP .tt) fun hs => hs.alloc rfl ty94 zc94 fun b6 I a w hs => hs.sc fun hs => wpList_nil <| then_n <| wp_seq <| wp_seq <| St.region <| hs.m fun hs => ?_
 refine hs.o (ok_call (c_spec_ChainOk ..) (args_cons .r args_nil)) fun hs => ?_
 refine hs.o (ok_not .tt) fun hs => wpList_nil <| then_n ?_
 refine hs.cond .tt (fun hb1 => ?_) (fun hb1 => ?_)
 ·replace hb1 := nt hb1
  refine wp_seq <| St.region <| hs.o (ok_build (l0 := [AV.val (.int .i64 0), AV.val (.int .i64 0), AV.val (.int .i64 0), AV.val (.int .i64 0), AV.val (.int .i64 0), AV.val (.int .i64 0), AV.rows 3 []]) ty94 fk94 zc94 rfl Parts.nil) fun hs => ?_
  refine hs.storeB 0 ty94 .tt .tt rfl (by first | rfl | assumption) rfl fun a w hs => ?_
  refine hs.sc fun hs => wpList_nil <| then_n <| wp_ret <| then_r ?_
  refine hs.ret rfl (.cons (.s 0 ty94 rfl rfl (by first | rfl | assumption)) (.cons (.t rfl) ResL.nil)) ?_
  exact (by rw [chainAt_bad hb1]; rfl)
 ·replace hb1 := nf hb1
  refine wp_skip <| then_n <| wp_seq <| wp_seq <| St.region <| hs.sc fun hs => wpList_nil <| then_n <| wp_block ?_
  refine St.loopS (σ := Nat) (7 :: 8 :: 13 :: 14 :: 15 :: 16 :: 17 :: 18 :: 19 :: 20 :: 21 :: 22 :: 23 :: 24 :: 25 :: 26 :: 27 :: 28 :: 29 :: 30 :: 31 :: 32 :: 33 :: 34 :: 35 :: 36 :: 37 :: 38 :: 39 :: []) ⟨fun k => [(8, AV.int k)], fun k => [Own.box b6 94 [AV.val (.int .i64 0), AV.val (.int .i64 0), AV.val (.int .i64 0), AV.val (.int .i64 0), AV.val (.int .i64 0), AV.val (.int .i64 0), AV.rows 3 []]], fun k => k ≤ l.length ∧ ∀ i, i < k → depIs ⟨key, st⟩ (elt l i) = false⟩ (fun k => l.length - k) 0 hs rfl ?ok1 ?env1 ?round1
  case ok1 => exact ⟨Nat.zero_le _, fun i hi => by omega⟩
  case env1 => exact (Env.le_consE rfl (by rfl) Env.le_nil)
  case round1 =>
   rintro k I a w hok hs
   obtain ⟨hk, hall⟩ := hok
   refine wp_seq <| wp_seq <| St.region <| hs.m fun hs => hs.m fun hs => ?_
   refine hs.o ((by first | exact ok_lenM un48 .tt | exact ok_len un48 .tt | exact ok_lenV un48 .tt)) fun hs => ?_
   refine hs.o (ok_lss .tt .tt) fun hs => wpList_nil <| then_n ?_
   refine hs.cond .tt (fun hb2 => ?_) (fun hb2 => ?_)
   ·try simp only [B] at hb2
    refine wp_skip <| then_n <| wp_seq <| wp_block <| wp_seq <| hs.dk <| .o (ok_move .tt) <| .o (ok_move .tt) ?_
    refine .o ((by first | exact ok_idxN un48 ty94 .tt .tt (fun _ => by exact hb2) | exact ok_idxM un48 ty94 .tt .tt (fun _ => by exact hb2) | exact ok_idx un48 ty94 .tt .tt (fun _ => by exact hb2))) ?_
    refine .o (ok_fieldP fd94_0 rfl .tt) <| .o (ok_load1 ty3 .tt) <| .o (ok_move .tt) <| .o (ok_eqi .tt .tt) <| .o (ok_move .tt) <| .q .T (ok_move .tt) <| .q .T (ok_move .tt) ?_
    refine .q .T ((by first | exact ok_idxN un48 ty94 .ag .ag (fun hg => by exact hb2) | exact ok_idxM un48 ty94 .ag .ag (fun hg => by exact hb2) | exact ok_idx un48 ty94 .ag .ag (fun hg => by exact hb2))) ?_
    refine .q .T (ok_fieldP fd94_1 rfl .ag) ?_
    refine .q .T ((by first | exact ok_loadA ty67 .ag rfl | exact ok_loadS ty67 .ag rfl)) ?_
    refine .q .T ((by first | exact ok_loadA ty67 .tt rfl | exact ok_loadS ty67 .tt rfl)) ?_
    refine .q .T (ok_eqS [_, _] [_, _] eqt67 rfl rfl .ag .ag) ?_
    refine .o (ok_and .tt .pc .c) <| RunK.nil ?_
    intro I a w hs
    refine then_n ?_
    refine hs.cond .tt (fun hb3 => ?_) (fun hb3 => ?_)
    ·rw [at_test] at hb3
     refine wp_seq <| St.region <| hs.m fun hs => hs.m fun hs => ?_
     refine hs.o ((by first | exact ok_idxN un48 ty94 .tt .tt (fun _ => by exact hb2) | exact ok_idxM un48 ty94 .tt .tt (fun _ => by exact hb2) | exact ok_idx un48 ty94 .tt .tt (fun _ => by exact hb2))) fun hs => ?_
     refine hs.o ((by first | exact ok_loadA ty94 .tt rfl | exact ok_loadS ty94 .tt rfl)) fun hs => ?_
     refine hs.o (ok_call (c_spec_l2Copy _ (by have := verOk_deps (chain_at hb1 hb2); omega)) (args_cons (.t rfl) args_nil)) fun hs => ?_
     refine hs.storeB 0 ty94 .tt .tt rfl (by first | rfl | assumption) rfl fun a w hs => ?_
     refine hs.sc fun hs => wpList_nil <| then_n <| wp_ret <| block_r <| then_r <| then_r <| block_r <| then_r ?_
     refine hs.ret rfl (.cons (.s 0 ty94 rfl rfl (by first | rfl | assumption)) (.cons (.t rfl) ResL.nil)) ?_
     exact (by rw [chainAt_hit hb1 hb2 hall hb3]; rfl)
    ·rw [at_test] at hb3
     refine wp_skip <| block_n <| then_n <| St.region <| hs.m fun hs => ?_
     refine hs.o (ok_add .tt .c (fun _ => by omega)) fun hs => ?_
     refine hs.s fun hs => wpList_nil <| then_n ?_
     refine hs.again (k + 1) ?mu1 ?ok1001 (by rfl) ?env1001 (by repeat (first | exact Env.le_rfl | refine Env.le_push rfl ?_))
     case mu1 => omega
     case ok1001 => exact ⟨hb2, fun i h1 => by rcases Nat.lt_succ_iff_lt_or_eq.1 h1 with h | h; exact hall i h; rw [h]; exact hb3⟩
     case env1001 => exact (Env.le_consE rfl (by first | rfl | (congr 1; done)) Env.le_nil)
   ·try simp only [B] at hb2
    refine wp_exit <| then_x <| then_x <| block_hit <| then_n <| wp_seq <| St.region <| hs.o (ok_build (l0 := [AV.val (.int .i64 0), AV.val (.int .i64 0), AV.val (.int .i64 0), AV.val (.int .i64 0), AV.val (.int .i64 0), AV.val (.int .i64 0), AV.rows 3 []]) ty94 fk94 zc94 rfl Parts.nil) fun hs => ?_
    refine hs.storeB 0 ty94 .tt .tt rfl (by first | rfl | assumption) rfl fun a w hs => ?_
    refine hs.sc fun hs => wpList_nil <| then_n <| wp_ret ?_
    refine hs.ret rfl (.cons (.s 0 ty94 rfl rfl (by first | rfl | assumption)) (.cons (.t rfl) ResL.nil)) ?_
    exact (by rw [chainAt_none (by omega) hall]; rfl)


def standAt (s : Server) (l : List Ver) (i : Nat) : Bool := standOf s (elt l i).key != 0
def free2 (s : Server) (i : Nat) : Bool := !((decide (0 ≤ placeOf s.vers (elt s.waits i).dep)) || (siteSide (elt s.waits i).stamp.site == siteSide s.site))
def oweAt (s : Server) (i : Nat) : Bool := decide (0 ≤ placeOf s.vers (elt s.owes i))
theorem slot_test2 (x : Slot) : (!inB x.epoch 0 9999 || !inB x.stand 0 2 || ((x.stand != 0) && decide (x.epoch < 1))) = !slotGood x := by
  rw [← slot_test]
  by_cases h : inB x.epoch 0 9999 = true
  · have e : decide (x.epoch < 1) = (x.epoch == 0) := by
      simp [inB] at h
      rw [Bool.eq_iff_iff]; simp; omega
    rw [e]
  · simp [h]
theorem wait_split (s : Server) (i : Nat) : waitAt s i = (standAt s s.waits i && free2 s i) := by
  unfold waitAt waitGood standAt free2
  have e : decide (placeOf s.vers (elt s.waits i).dep < 0) = !decide (0 ≤ placeOf s.vers (elt s.waits i).dep) := by rw [Bool.eq_iff_iff]; simp
  rw [e]
  cases (standOf s (elt s.waits i).key != 0) <;> cases decide (0 ≤ placeOf s.vers (elt s.waits i).dep) <;> simp [bne]
theorem allN_and {n : Nat} {f g : Nat → Bool} : allN n (fun i => f i && g i) = (allN n f && allN n g) := by
  rw [Bool.eq_iff_iff, Bool.and_eq_true, allN_iff, allN_iff, allN_iff]
  exact ⟨fun h => ⟨fun i hi => (Bool.and_eq_true_iff.1 (h i hi)).1, fun i hi => (Bool.and_eq_true_iff.1 (h i hi)).2⟩, fun h i hi => Bool.and_eq_true_iff.2 ⟨h.1 i hi, h.2 i hi⟩⟩
theorem has_owes (s : Server) : hasAll s.vers s.owes = allN s.owes.length (oweAt s) := by
  unfold hasAll hasB
  by_cases h : 0 ≤ idxI (missing s.vers) s.owes
  · obtain ⟨k, hk, hm⟩ := idxI_any h
    have : oweAt s k = false := by
      simp only [missing, decide_eq_true_eq] at hm
      simp only [oweAt, decide_eq_false_iff_not]; omega
    rw [allN_false hk this]; simp [h]
  · have hall := idxI_all (p := missing s.vers) (l := s.owes) (by omega)
    have : allN s.owes.length (oweAt s) = true := by
      rw [allN_iff]
      intro i hi
      have := hall i hi
      simp only [missing, decide_eq_false_iff_not] at this
      simp only [oweAt, decide_eq_true_eq]; omega
    rw [this]; simp [h]
theorem serverOk_spec (s : Server) : serverOk s = (serverHead s && allN s.slots.length (slotAt s) && (allN s.vers.length (standAt s s.vers) && allN s.waits.length (standAt s s.waits)) && allN s.waits.length (free2 s) && allN s.owes.length (oweAt s)) := by
  unfold serverOk
  have e : allN s.waits.length (waitAt s) = (allN s.waits.length (standAt s s.waits) && allN s.waits.length (free2 s)) := by
    rw [← allN_and]; exact allN_congr rfl fun i _ => wait_split s i
  have e2 : allN s.vers.length (verAt s) = allN s.vers.length (standAt s s.vers) := rfl
  rw [e, e2, has_owes]
  cases serverHead s <;> cases allN s.slots.length (slotAt s) <;> cases allN s.vers.length (standAt s s.vers) <;> cases allN s.waits.length (standAt s s.waits) <;> simp
theorem free_test (s : Server) (i : Nat) (hc : chainOk s.vers = true) : ((chainAt s.vers ⟨(elt s.waits i).key, (elt s.waits i).stamp⟩).isSome || (siteSide (elt s.waits i).stamp.site == siteSide s.site)) = !free2 s i := by
  rw [chainAt_some hc]
  show _ = !!(_ || _)
  rw [Bool.not_not]; rfl
theorem owe_test (s : Server) (i : Nat) (hc : chainOk s.vers = true) : (!(chainAt s.vers ⟨(elt s.owes i).key, (elt s.owes i).stamp⟩).isSome) = !oweAt s i := by
  rw [chainAt_some hc]; simp [oweAt]

theorem c_spec_l21Vers (s : Server) (l : List Ver) (hl : s.slots.length = 3) (hc : chainOk l = true) :
    Fn Tryz.prog 169 [s.av, versAV l] (AV.bool (allN l.length (standAt s l))) := by
 refine Fn.intro 20 Tryz.func169 rfl Tryz.ntmps169 rfl (by kernel_rfl) (fun W I a hs => ?_)
 have hle := hs.lenleM (t := 1) rfl
 refine wp_seq <| St.region <| hs.o (ok_boxP .tt) fun hs => hs.sc fun hs => wpList_nil <| then_n <| wp_seq <| wp_seq <| St.region <| hs.sc fun hs => wpList_nil <| then_n <| wp_block ?_
 refine St.loopS (σ := Nat) (4 :: 5 :: 6 :: 7 :: 8 :: 9 :: 10 :: 11 :: 12 :: 13 :: 14 :: 15 :: 16 :: 17 :: 18 :: 19 :: []) ⟨fun k => [(5, AV.int k)], fun k => [], fun k => k ≤ l.length ∧ ∀ i, i < k → (standAt s l) i = true⟩ (fun k => l.length - k) 0 hs rfl ?ok1 ?env1 ?round1
 case ok1 => exact ⟨Nat.zero_le _, fun i hi => by omega⟩
 case env1 => exact (Env.le_consE rfl (by rfl) Env.le_nil)
 case round1 =>
  rintro k I a w hok hs
  obtain ⟨hk_k, hall⟩ := hok
  refine wp_seq <| wp_seq <| St.region <| hs.m fun hs => hs.m fun hs => ?_
  refine hs.o ((by first | exact ok_lenM un48 .tt | exact ok_len un48 .tt | exact ok_lenV un48 .tt)) fun hs => ?_
  refine hs.o (ok_lss .tt .tt) fun hs => wpList_nil <| then_n ?_
  refine hs.cond .tt (fun hb1 => ?_) (fun hb1 => ?_)
  ·try simp only [B] at hb1
   refine wp_skip <| then_n <| wp_seq <| wp_block <| wp_seq <| hs.dk ?_
   refine .o ((by first | exact ok_loadA ty89 .tt rfl | exact ok_loadS ty89 .tt rfl)) ?_
   refine .o (ok_move .tt) <| .o (ok_move .tt) ?_
   refine .o ((by first | exact ok_idxN un48 ty94 .tt .tt (fun _ => by exact hb1) | exact ok_idxM un48 ty94 .tt .tt (fun _ => by exact hb1) | exact ok_idx un48 ty94 .tt .tt (fun _ => by exact hb1))) ?_
   refine .o (ok_fieldP fd94_0 rfl .tt) <| .o (ok_load1 ty3 .tt) <| .o (ok_call (c_spec_l21Here _ _ (verOk_key (chain_at hc hb1)) hl) (args_cons .tt (args_cons .tt args_nil))) <| .o (ok_not .tt) <| RunK.nil ?_
   intro I a w hs
   refine then_n ?_
   refine hs.cond .tt (fun hb2 => ?_) (fun hb2 => ?_)
   ·replace hb2 := nt hb2
    refine wp_seq <| St.region <| hs.sc fun hs => wpList_nil <| then_n <| wp_ret <| block_r <| then_r <| then_r <| block_r <| then_r <| hs.ret rfl (.cons (.t rfl) ResL.nil) ?_
    exact ret_bool (allN_false (f := standAt s l) hb1 hb2).symm
   ·replace hb2 := nf hb2
    refine wp_skip <| block_n <| then_n <| St.region <| hs.m fun hs => ?_
    refine hs.o (ok_add .tt .c (fun _ => by omega)) fun hs => ?_
    refine hs.s fun hs => wpList_nil <| then_n ?_
    refine hs.again (k + 1) ?mu1 ?ok1001 (by rfl) ?env1001 (by repeat (first | exact Env.le_rfl | refine Env.le_push rfl ?_))
    case mu1 => omega
    case ok1001 => exact ⟨by omega, allN_next hall hb2⟩
    case env1001 => exact (Env.le_consE rfl (by first | rfl | (congr 1; done)) Env.le_nil)
  ·try simp only [B] at hb1
   refine wp_exit <| then_x <| then_x <| block_hit <| then_n <| wp_seq <| St.region <| hs.sc fun hs => wpList_nil <| then_n <| wp_ret <| hs.ret rfl (.cons (.t rfl) ResL.nil) ?_
   exact ret_bool (allN_true hall (by omega)).symm

set_option maxHeartbeats 4000000 in
theorem c_spec_ServerOk (s : Server) :
    Fn Tryz.prog 96 [s.av] (AV.bool (serverOk s)) := by
 refine Fn.intro 177 Tryz.func96 rfl Tryz.ntmps96 rfl (by kernel_rfl) (fun W I a hs => ?_)
 have lens : s.slots.length ≤ 9223372036854775807 ∧ s.vers.length ≤ 9223372036854775807 ∧ s.waits.length ≤ 9223372036854775807 ∧ s.owes.length ≤ 9223372036854775807 := by
    obtain ⟨cs, _, hc⟩ := hs.env 0 _ rfl
    obtain ⟨u1, _, h1, _⟩ := hc.get (i := 2) rfl
    obtain ⟨u2, _, h2, _⟩ := hc.get (i := 3) rfl
    obtain ⟨u3, _, h3, _⟩ := hc.get (i := 4) rfl
    obtain ⟨u4, _, h4, _⟩ := hc.get (i := 5) rfl
    exact ⟨rows_le h1, rows_le h2, rows_le h3, rows_le h4⟩
 refine wp_seq <| St.region <| hs.o (ok_boxP .tt) fun hs => hs.sc fun hs => wpList_nil <| then_n <| wp_seq <| wp_seq <| St.region <| hs.o (ok_fieldP fd89_0 rfl .tt) fun hs => hs.o (ok_load1 ty3 .tt) fun hs => hs.o (ok_call (c_spec_l1Site ..) (args_cons .tt args_nil)) fun hs => hs.o (ok_not .tt) fun hs => hs.m fun hs => hs.q .F (ok_fieldP fd89_2 rfl .tt) fun hs => hs.q .F (ok_load1 ty87 .ag) fun hs => ?_
 refine hs.q .F ((by first | exact ok_lenM un87 .ag | exact ok_len un87 .ag | exact ok_lenV un87 .ag)) fun hs => ?_
 refine hs.q .F (ok_nei .ag .c) fun hs => ?_
 refine hs.o (ok_or .tt .c .pc) fun hs => hs.m fun hs => hs.q .F (ok_fieldP fd89_3 rfl .tt) fun hs => hs.q .F (ok_load1 ty48 .ag) fun hs => ?_
 refine hs.q .F (ok_call (c_spec_ChainOk ..) (args_cons .ag args_nil)) fun hs => ?_
 refine hs.q .F (ok_not .ag) fun hs => ?_
 refine hs.o (ok_or .tt .c .pc) fun hs => hs.m fun hs => hs.q .F (ok_fieldP fd89_4 rfl .tt) fun hs => hs.q .F (ok_load1 ty48 .ag) fun hs => ?_
 refine hs.q .F (ok_call (c_spec_ChainOk ..) (args_cons .ag args_nil)) fun hs => ?_
 refine hs.q .F (ok_not .ag) fun hs => ?_
 refine hs.o (ok_or .tt .c .pc) fun hs => hs.m fun hs => hs.q .F (ok_fieldP fd89_5 rfl .tt) fun hs => hs.q .F (ok_load1 ty65 .ag) fun hs => ?_
 refine hs.q .F (ok_call (c_spec_l11Owes ..) (args_cons .ag args_nil)) fun hs => ?_
 refine hs.q .F (ok_not .ag) fun hs => ?_
 refine hs.o (ok_or .tt .c .pc) fun hs => hs.m fun hs => hs.q .F (ok_fieldP fd89_6 rfl .tt) fun hs => hs.q .F (ok_load1 ty65 .ag) fun hs => ?_
 refine hs.q .F (ok_call (c_spec_l11Owes ..) (args_cons .ag args_nil)) fun hs => ?_
 refine hs.q .F (ok_not .ag) fun hs => ?_
 refine hs.o (ok_or .tt .c .pc) fun hs => hs.m fun hs => hs.q .F (ok_fieldP fd89_1 rfl .tt) fun hs => hs.q .F (ok_load1 ty4 .ag) fun hs => ?_
 refine hs.q .F (ok_not .ag) fun hs => ?_
 refine hs.q .F (ok_move .ag) fun hs => ?_
 refine hs.q .T2 (ok_fieldP fd89_6 rfl .tt) fun hs => hs.q .T2 (ok_load1 ty65 .ag) fun hs => ?_
 refine hs.q .T2 ((by first | exact ok_lenM un65 .ag | exact ok_len un65 .ag | exact ok_lenV un65 .ag)) fun hs => ?_
 refine hs.q .T2 (ok_gtr .ag .c) fun hs => ?_
 refine hs.q .F (ok_and .ag .pc .c) fun hs => ?_
 refine hs.o (ok_or .tt .c .pc) fun hs => wpList_nil <| then_n ?_
 refine hs.cond .tt (fun hb1 => ?_) (fun hb1 => ?_)
 ·rw [srv_test] at hb1; replace hb1 := nt hb1
  refine wp_seq <| St.region <| hs.sc fun hs => wpList_nil <| then_n <| wp_ret <| then_r <| hs.ret rfl (.cons (.t rfl) ResL.nil) ?_
  exact ret_bool (by unfold serverOk; rw [hb1]; rfl)
 ·rw [srv_test] at hb1; replace hb1 := nf hb1; obtain ⟨hl3, hcv, hcw, hco, hck, hsi⟩ := head_parts hb1
  refine wp_skip <| then_n <| wp_seq <| wp_seq <| St.region <| hs.sc fun hs => wpList_nil <| then_n <| wp_block ?_
  refine St.loopS (σ := Nat) (2 :: 3 :: 55 :: 56 :: 57 :: 58 :: 59 :: 60 :: 61 :: 62 :: 63 :: 64 :: 65 :: 66 :: 67 :: 68 :: 69 :: 70 :: 71 :: 72 :: 73 :: 74 :: 75 :: 76 :: 77 :: 78 :: 79 :: 80 :: 81 :: 82 :: 83 :: 84 :: 85 :: 86 :: 87 :: 88 :: 89 :: 90 :: 91 :: 92 :: 93 :: 94 :: 95 :: 96 :: 97 :: []) ⟨fun k1 => [(3, AV.int k1)], fun k1 => [], fun k1 => k1 ≤ s.slots.length ∧ ∀ i, i < k1 → (slotAt s) i = true⟩ (fun k1 => s.slots.length - k1) 0 hs rfl ?ok1 ?env1 ?round1
  case ok1 => exact ⟨Nat.zero_le _, fun i hi => by omega⟩
  case env1 => exact (Env.le_consE rfl (by rfl) Env.le_nil)
  case round1 =>
   rintro k1 I a w hok hs
   obtain ⟨hk_k1, hall1⟩ := hok
   refine wp_seq <| wp_seq <| St.region <| hs.m fun hs => hs.o (ok_fieldP fd89_2 rfl .tt) fun hs => hs.o (ok_load1 ty87 .tt) fun hs => ?_
   refine hs.o ((by first | exact ok_lenM un87 .tt | exact ok_len un87 .tt | exact ok_lenV un87 .tt)) fun hs => ?_
   refine hs.o (ok_lss .tt .tt) fun hs => wpList_nil <| then_n ?_
   refine hs.cond .tt (fun hb2 => ?_) (fun hb2 => ?_)
   ·try simp only [B] at hb2
    refine wp_skip <| then_n <| wp_seq <| wp_block <| wp_seq <| St.region <| hs.o (ok_fieldP fd89_2 rfl .tt) fun hs => hs.o (ok_load1 ty87 .tt) fun hs => hs.m fun hs => ?_
    refine hs.o ((by first | exact ok_idxN un87 ty91 .tt .tt (fun _ => by exact hb2) | exact ok_idxM un87 ty91 .tt .tt (fun _ => by exact hb2) | exact ok_idx un87 ty91 .tt .tt (fun _ => by exact hb2))) fun hs => ?_
    refine hs.o (ok_fieldP fd91_0 rfl .tt) fun hs => hs.o (ok_load1 ty3 .tt) fun hs => hs.o (ok_call (c_spec_l6In ..) (args_cons .tt (args_cons .c (args_cons .c args_nil)))) fun hs => hs.o (ok_not .tt) fun hs => hs.m fun hs => hs.q .F (ok_fieldP fd89_2 rfl .tt) fun hs => hs.q .F (ok_load1 ty87 .ag) fun hs => ?_
    refine hs.q .F (ok_move .tt) fun hs => ?_
    refine hs.q .F ((by first | exact ok_idxN un87 ty91 .ag .ag (fun hg => by exact hb2) | exact ok_idxM un87 ty91 .ag .ag (fun hg => by exact hb2) | exact ok_idx un87 ty91 .ag .ag (fun hg => by exact hb2))) fun hs => ?_
    refine hs.q .F (ok_fieldP fd91_1 rfl .ag) fun hs => ?_
    refine hs.q .F (ok_load1 ty3 .ag) fun hs => ?_
    refine hs.q .F (ok_call (c_spec_l6In ..) (args_cons .ag (args_cons .c (args_cons .c args_nil)))) fun hs => ?_
    refine hs.q .F (ok_not .ag) fun hs => ?_
    refine hs.o (ok_or .tt .c .pc) fun hs => hs.m fun hs => hs.q .F (ok_fieldP fd89_2 rfl .tt) fun hs => hs.q .F (ok_load1 ty87 .ag) fun hs => ?_
    refine hs.q .F (ok_move .tt) fun hs => ?_
    refine hs.q .F ((by first | exact ok_idxN un87 ty91 .ag .ag (fun hg => by exact hb2) | exact ok_idxM un87 ty91 .ag .ag (fun hg => by exact hb2) | exact ok_idx un87 ty91 .ag .ag (fun hg => by exact hb2))) fun hs => ?_
    refine hs.q .F (ok_fieldP fd91_1 rfl .ag) fun hs => ?_
    refine hs.q .F (ok_load1 ty3 .ag) fun hs => ?_
    refine hs.q .F (ok_nei .ag .c) fun hs => ?_
    refine hs.q .F (ok_move .ag) fun hs => ?_
    refine hs.q .T2 (ok_fieldP fd89_2 rfl .tt) fun hs => hs.q .T2 (ok_load1 ty87 .ag) fun hs => ?_
    refine hs.q .T2 (ok_move .tt) fun hs => ?_
    refine hs.q .T2 ((by first | exact ok_idxN un87 ty91 .ag .ag (fun hg => by exact hb2) | exact ok_idxM un87 ty91 .ag .ag (fun hg => by exact hb2) | exact ok_idx un87 ty91 .ag .ag (fun hg => by exact hb2))) fun hs => ?_
    refine hs.q .T2 (ok_fieldP fd91_0 rfl .ag) fun hs => ?_
    refine hs.q .T2 (ok_load1 ty3 .ag) fun hs => ?_
    refine hs.q .T2 (ok_lss .ag .c) fun hs => ?_
    refine hs.q .F (ok_and .ag .pc .c) fun hs => ?_
    refine hs.o (ok_or .tt .c .pc) fun hs => wpList_nil <| then_n ?_
    refine hs.cond .tt (fun hb3 => ?_) (fun hb3 => ?_)
    ·rw [slot_test2] at hb3; replace hb3 := nt hb3
     refine wp_seq <| St.region <| hs.sc fun hs => wpList_nil <| then_n <| wp_ret <| block_r <| then_r <| then_r <| block_r <| then_r <| hs.ret rfl (.cons (.t rfl) ResL.nil) ?_
     exact ret_bool (by rw [serverOk_spec, hb1, allN_false (f := slotAt s) hb2 hb3]; simp)
    ·rw [slot_test2] at hb3; replace hb3 := nf hb3
     refine wp_skip <| block_n <| then_n <| St.region <| hs.m fun hs => ?_
     refine hs.o (ok_add .tt .c (fun _ => by omega)) fun hs => ?_
     refine hs.s fun hs => wpList_nil <| then_n ?_
     refine hs.again (k1 + 1) ?mu1 ?ok1001 (by rfl) ?env1001 (by repeat (first | exact Env.le_rfl | refine Env.le_push rfl ?_))
     case mu1 => omega
     case ok1001 => exact ⟨by omega, allN_next hall1 hb3⟩
     case env1001 => exact (Env.le_consE rfl (by first | rfl | (congr 1; done)) Env.le_nil)
   ·try simp only [B] at hb2
    refine wp_exit <| then_x <| then_x <| block_hit <| then_n <| wp_seq <| wp_seq <| St.region ?_
    refine hs.o ((by first | exact ok_loadA ty89 .tt rfl | exact ok_loadS ty89 .tt rfl)) fun hs => ?_
    refine hs.o (ok_fieldP fd89_3 rfl .tt) fun hs => hs.o (ok_load1 ty48 .tt) fun hs => ?_
    refine hs.o (ok_call (c_spec_l21Vers _ _ hl3 hcv) (args_cons .tt (args_cons .r args_nil))) fun hs => ?_
    refine hs.o (ok_not .tt) fun hs => hs.m fun hs => ?_
    refine hs.q .F ((by first | exact ok_loadA ty89 .tt rfl | exact ok_loadS ty89 .tt rfl)) fun hs => ?_
    refine hs.q .F (ok_fieldP fd89_4 rfl .tt) fun hs => hs.q .F (ok_load1 ty48 .ag) fun hs => ?_
    refine hs.q .F (ok_call (c_spec_l21Vers _ _ hl3 hcw) (args_cons .ag (args_cons .ag args_nil))) fun hs => ?_
    refine hs.q .F (ok_not .ag) fun hs => ?_
    refine hs.o (ok_or .tt .c .pc) fun hs => wpList_nil <| then_n ?_
    refine hs.cond .tt (fun hb4 => ?_) (fun hb4 => ?_)
    ·skip
     refine wp_seq <| St.region <| hs.sc fun hs => wpList_nil <| then_n <| wp_ret <| then_r <| hs.ret rfl (.cons (.t rfl) ResL.nil) ?_
     exact ret_bool (by rw [serverOk_spec, hb1]; revert hb4; cases allN s.vers.length (standAt s s.vers) <;> cases allN s.waits.length (standAt s s.waits) <;> simp)
    ·rw [Bool.or_eq_false_iff] at hb4; obtain ⟨hv4, hw4⟩ := hb4; replace hv4 := nf hv4; replace hw4 := nf hw4
     refine wp_skip <| then_n <| wp_seq <| wp_seq <| St.region <| hs.sc fun hs => wpList_nil <| then_n <| wp_block ?_
     refine St.loopS (σ := Nat) (2 :: 4 :: 5 :: 6 :: 110 :: 111 :: 112 :: 113 :: 114 :: 115 :: 116 :: 117 :: 118 :: 119 :: 120 :: 121 :: 122 :: 123 :: 124 :: 125 :: 126 :: 127 :: 128 :: 129 :: 130 :: 131 :: 132 :: 133 :: 134 :: 135 :: 136 :: 137 :: 138 :: 139 :: 140 :: 141 :: 142 :: 143 :: 144 :: 145 :: 146 :: 147 :: 148 :: 149 :: []) ⟨fun k2 => [(4, AV.int k2)], fun k2 => [], fun k2 => k2 ≤ s.waits.length ∧ ∀ i, i < k2 → (free2 s) i = true⟩ (fun k2 => s.waits.length - k2) 0 hs rfl ?ok2 ?env2 ?round2
     case ok2 => exact ⟨Nat.zero_le _, fun i hi => by omega⟩
     case env2 => exact (Env.le_consE rfl (by rfl) Env.le_nil)
     case round2 =>
      rintro k2 I a w hok hs
      obtain ⟨hk_k2, hall2⟩ := hok
      refine wp_seq <| wp_seq <| St.region <| hs.m fun hs => hs.o (ok_fieldP fd89_4 rfl .tt) fun hs => hs.o (ok_load1 ty48 .tt) fun hs => ?_
      refine hs.o ((by first | exact ok_lenM un48 .tt | exact ok_len un48 .tt | exact ok_lenV un48 .tt)) fun hs => ?_
      refine hs.o (ok_lss .tt .tt) fun hs => wpList_nil <| then_n ?_
      refine hs.cond .tt (fun hb5 => ?_) (fun hb5 => ?_)
      ·try simp only [B] at hb5
       refine wp_skip <| then_n <| wp_seq <| wp_block <| wp_seq ?_
       have hs := hs.ownGone
       refine hs.drawD [([], none), ([], none), ([], none), ([], none), ([], none), ([], none), ([], none), ([], none), ([], none), ([], none), ([], none), ([], none), ([], none), ([], none), ([], none), ([], none), ([], none), ([], none), ([0], some (0, [5])), ([0], some (0, [5])), ([], none)] (by kernel_rfl) (by kernel_rfl) rfl ?_
       refine RunD.op rfl rfl rfl (fun F a => ok_fieldP fd89_3 rfl .tt) <| RunD.op rfl rfl rfl (fun F a => ok_load1 ty48 .tt) <| RunD.op rfl rfl rfl (fun F a => ok_fieldP fd89_4 rfl .tt) <| RunD.op rfl rfl rfl (fun F a => ok_load1 ty48 .tt) <| RunD.op rfl rfl rfl (fun F a => ok_move .tt) ?_
       refine RunD.op rfl rfl rfl (fun F a => (by first | exact ok_idxN un48 ty94 .tt .tt (fun _ => by exact hb5) | exact ok_idxM un48 ty94 .tt .tt (fun _ => by exact hb5) | exact ok_idx un48 ty94 .tt .tt (fun _ => by exact hb5))) ?_
       refine RunD.op rfl rfl rfl (fun F a => ok_fieldP fd94_0 rfl .tt) <| RunD.op rfl rfl rfl (fun F a => ok_load1 ty3 .tt) <| RunD.op rfl rfl rfl (fun F a => ok_fieldP fd89_4 rfl .tt) <| RunD.op rfl rfl rfl (fun F a => ok_load1 ty48 .tt) <| RunD.op rfl rfl rfl (fun F a => ok_move .tt) ?_
       refine RunD.op rfl rfl rfl (fun F a => (by first | exact ok_idxN un48 ty94 .tt .tt (fun _ => by exact hb5) | exact ok_idxM un48 ty94 .tt .tt (fun _ => by exact hb5) | exact ok_idx un48 ty94 .tt .tt (fun _ => by exact hb5))) ?_
       refine RunD.op rfl rfl rfl (fun F a => ok_fieldP fd94_1 rfl .tt) ?_
       refine RunD.op rfl rfl rfl (fun F a => (by first | exact ok_loadA ty67 .tt rfl | exact ok_loadS ty67 .tt rfl)) ?_
       refine RunD.op rfl rfl rfl (fun F a => ok_call (c_spec_ChainAt ..) (args_cons .r (args_cons .tt (args_cons .tt args_nil)))) ?_
       refine RunD.op rfl rfl rfl (fun F a => ok_move .tt) <| RunD.op rfl rfl rfl (fun F a => ok_extract .tt rfl) <| RunD.op rfl rfl rfl (fun F a => ok_extract .tt rfl) <| RunD.alloc 0 rfl rfl ty94 zc94 <| RunD.storeN 0 rfl ty94 rfl .tt rfl rfl <| RunD.op rfl rfl rfl (fun F a => ok_assign .tt) <| RunD.nil ?_
       intro I a w hs
       obtain ⟨b5, hs⟩ := hs.openAt (d := 5) 0 rfl rfl
       obtain ⟨I, hs, hf⟩ := hs.freezeBox 0 rfl
       have hs := hs.upd (t := 5) rfl hf; clear hf
       refine then_n <| wp_seq <| hs.dk <| .o (ok_move .tt) <| .o (ok_move .tt) <| .q .F (ok_fieldP fd89_4 rfl .tt) <| .q .F (ok_load1 ty48 .ag) ?_
       refine .q .F (ok_move .tt) ?_
       refine .q .F ((by first | exact ok_idxN un48 ty94 .ag .ag (fun hg => by exact hb5) | exact ok_idxM un48 ty94 .ag .ag (fun hg => by exact hb5) | exact ok_idx un48 ty94 .ag .ag (fun hg => by exact hb5))) ?_
       refine .q .F (ok_fieldP fd94_1 rfl .ag) ?_
       refine .q .F (ok_fieldP fd67_1 rfl .ag) ?_
       refine .q .F (ok_load1 ty3 .ag) ?_
       refine .q .F (ok_call (c_spec_SiteSide ..) (args_cons .ag args_nil)) ?_
       refine .q .F (ok_fieldP fd89_0 rfl .tt) <| .q .F (ok_load1 ty3 .ag) ?_
       refine .q .F (ok_call (c_spec_SiteSide ..) (args_cons .ag args_nil)) ?_
       refine .q .F (ok_eqi .ag .ag) ?_
       refine .o (ok_or .tt .c .pc) <| RunK.nil ?_
       intro I a w hs
       refine then_n ?_
       refine hs.cond .tt (fun hb6 => ?_) (fun hb6 => ?_)
       ·rw [free_test s _ hcv] at hb6; replace hb6 := nt hb6
        refine wp_seq <| St.region <| hs.sc fun hs => wpList_nil <| then_n <| wp_ret <| block_r <| then_r <| then_r <| block_r <| then_r <| hs.ret rfl (.cons (.t rfl) ResL.nil) ?_
        exact ret_bool (by rw [serverOk_spec, hb1, allN_false (f := free2 s) hb5 hb6]; simp)
       ·rw [free_test s _ hcv] at hb6; replace hb6 := nf hb6
        refine wp_skip <| block_n <| then_n <| St.region <| hs.m fun hs => ?_
        refine hs.o (ok_add .tt .c (fun _ => by omega)) fun hs => ?_
        refine hs.s fun hs => wpList_nil <| then_n ?_
        have hs := hs.drop 0
        refine hs.again (k2 + 1) ?mu2 ?ok1002 (by rfl) ?env1002 (by repeat (first | exact Env.le_rfl | refine Env.le_push rfl ?_))
        case mu2 => omega
        case ok1002 => exact ⟨by omega, allN_next hall2 hb6⟩
        case env1002 => exact (Env.le_consE rfl (by first | rfl | (congr 1; done)) Env.le_nil)
      ·try simp only [B] at hb5
       refine wp_exit <| then_x <| then_x <| block_hit <| then_n <| wp_seq <| wp_seq <| St.region <| hs.sc fun hs => wpList_nil <| then_n <| wp_block ?_
       refine St.loopS (σ := Nat) (2 :: 7 :: 8 :: 9 :: 150 :: 151 :: 152 :: 153 :: 154 :: 155 :: 156 :: 157 :: 158 :: 159 :: 160 :: 161 :: 162 :: 163 :: 164 :: 165 :: 166 :: 167 :: 168 :: 169 :: 170 :: 171 :: 172 :: 173 :: 174 :: 175 :: 176 :: []) ⟨fun k3 => [(7, AV.int k3)], fun k3 => [], fun k3 => k3 ≤ s.owes.length ∧ ∀ i, i < k3 → (oweAt s) i = true⟩ (fun k3 => s.owes.length - k3) 0 hs rfl ?ok3 ?env3 ?round3
       case ok3 => exact ⟨Nat.zero_le _, fun i hi => by omega⟩
       case env3 => exact (Env.le_consE rfl (by rfl) Env.le_nil)
       case round3 =>
        rintro k3 I a w hok hs
        obtain ⟨hk_k3, hall3⟩ := hok
        refine wp_seq <| wp_seq <| St.region <| hs.m fun hs => hs.o (ok_fieldP fd89_5 rfl .tt) fun hs => hs.o (ok_load1 ty65 .tt) fun hs => ?_
        refine hs.o ((by first | exact ok_lenM un65 .tt | exact ok_len un65 .tt | exact ok_lenV un65 .tt)) fun hs => ?_
        refine hs.o (ok_lss .tt .tt) fun hs => wpList_nil <| then_n ?_
        refine hs.cond .tt (fun hb7 => ?_) (fun hb7 => ?_)
        ·try simp only [B] at hb7
         refine wp_skip <| then_n <| wp_seq <| wp_block <| wp_seq ?_
         have hs := hs.ownGone
         refine hs.drawD [([], none), ([], none), ([], none), ([], none), ([], none), ([], none), ([], none), ([], none), ([], none), ([], none), ([], none), ([], none), ([], none), ([], none), ([], none), ([], none), ([], none), ([], none), ([0], some (0, [8])), ([0], some (0, [8])), ([], none)] (by kernel_rfl) (by kernel_rfl) rfl ?_
         refine RunD.op rfl rfl rfl (fun F a => ok_fieldP fd89_3 rfl .tt) <| RunD.op rfl rfl rfl (fun F a => ok_load1 ty48 .tt) <| RunD.op rfl rfl rfl (fun F a => ok_fieldP fd89_5 rfl .tt) <| RunD.op rfl rfl rfl (fun F a => ok_load1 ty65 .tt) <| RunD.op rfl rfl rfl (fun F a => ok_move .tt) ?_
         refine RunD.op rfl rfl rfl (fun F a => (by first | exact ok_idxN un65 ty74 .tt .tt (fun _ => by exact hb7) | exact ok_idxM un65 ty74 .tt .tt (fun _ => by exact hb7) | exact ok_idx un65 ty74 .tt .tt (fun _ => by exact hb7))) ?_
         refine RunD.op rfl rfl rfl (fun F a => ok_fieldP fd74_0 rfl .tt) <| RunD.op rfl rfl rfl (fun F a => ok_load1 ty3 .tt) <| RunD.op rfl rfl rfl (fun F a => ok_fieldP fd89_5 rfl .tt) <| RunD.op rfl rfl rfl (fun F a => ok_load1 ty65 .tt) <| RunD.op rfl rfl rfl (fun F a => ok_move .tt) ?_
         refine RunD.op rfl rfl rfl (fun F a => (by first | exact ok_idxN un65 ty74 .tt .tt (fun _ => by exact hb7) | exact ok_idxM un65 ty74 .tt .tt (fun _ => by exact hb7) | exact ok_idx un65 ty74 .tt .tt (fun _ => by exact hb7))) ?_
         refine RunD.op rfl rfl rfl (fun F a => ok_fieldP fd74_1 rfl .tt) ?_
         refine RunD.op rfl rfl rfl (fun F a => (by first | exact ok_loadA ty67 .tt rfl | exact ok_loadS ty67 .tt rfl)) ?_
         refine RunD.op rfl rfl rfl (fun F a => ok_call (c_spec_ChainAt ..) (args_cons .r (args_cons .tt (args_cons .tt args_nil)))) ?_
         refine RunD.op rfl rfl rfl (fun F a => ok_move .tt) <| RunD.op rfl rfl rfl (fun F a => ok_extract .tt rfl) <| RunD.op rfl rfl rfl (fun F a => ok_extract .tt rfl) <| RunD.alloc 0 rfl rfl ty94 zc94 <| RunD.storeN 0 rfl ty94 rfl .tt rfl rfl <| RunD.op rfl rfl rfl (fun F a => ok_assign .tt) <| RunD.nil ?_
         intro I a w hs
         obtain ⟨b8, hs⟩ := hs.openAt (d := 8) 0 rfl rfl
         obtain ⟨I, hs, hf⟩ := hs.freezeBox 0 rfl
         have hs := hs.upd (t := 8) rfl hf; clear hf
         refine then_n <| wp_seq <| St.region <| hs.m fun hs => hs.o (ok_not .tt) fun hs => wpList_nil <| then_n ?_
         refine hs.cond .tt (fun hb8 => ?_) (fun hb8 => ?_)
         ·rw [owe_test s _ hcv] at hb8; replace hb8 := nt hb8
          refine wp_seq <| St.region <| hs.sc fun hs => wpList_nil <| then_n <| wp_ret <| block_r <| then_r <| then_r <| block_r <| then_r <| hs.ret rfl (.cons (.t rfl) ResL.nil) ?_
          exact ret_bool (by rw [serverOk_spec, hb1, allN_false (f := oweAt s) hb7 hb8]; simp)
         ·rw [owe_test s _ hcv] at hb8; replace hb8 := nf hb8
          refine wp_skip <| block_n <| then_n <| St.region <| hs.m fun hs => ?_
          refine hs.o (ok_add .tt .c (fun _ => by omega)) fun hs => ?_
          refine hs.s fun hs => wpList_nil <| then_n ?_
          have hs := hs.drop 0
          refine hs.again (k3 + 1) ?mu3 ?ok1003 (by rfl) ?env1003 (by repeat (first | exact Env.le_rfl | refine Env.le_push rfl ?_))
          case mu3 => omega
          case ok1003 => exact ⟨by omega, allN_next hall3 hb8⟩
          case env1003 => exact (Env.le_consE rfl (by first | rfl | (congr 1; done)) Env.le_nil)
        ·try simp only [B] at hb7
         refine wp_exit <| then_x <| then_x <| block_hit <| then_n <| wp_seq <| St.region <| hs.sc fun hs => wpList_nil <| then_n <| wp_ret <| hs.ret rfl (.cons (.t rfl) ResL.nil) ?_
         exact ret_bool (by rw [serverOk_spec, hb1, allN_true hall1 (by omega), hv4, hw4, allN_true hall2 (by omega), allN_true hall3 (by omega)]; rfl)

end Go.Proofs.YtlppgilifnkapaaGreat
