/- Part 18: rules of the proofs, contracts of functions, plain facts. -/
import Derived.Test.YtkoebplikhlapaaGreatDoorP16
set_option linter.unusedVariables false
set_option linter.unusedSimpArgs false
set_option maxRecDepth 100000
namespace Go.Proofs.YtkoebplikhlapaaGreatDoor
open Go Go.RowKit
theorem depsFrom_len : ∀ (l : List Dep) (last : Int), depsFrom last l = true → last ≤ 5 → (l.length : Int) ≤ 5 - last
  | [], last, _, h => by simp; omega
  | d :: r, last, h, hl => by
    simp only [depsFrom, Bool.and_eq_true, inB, decide_eq_true_eq] at h
    have := depsFrom_len r d.key h.2 (by omega)
    simp; omega
theorem depsOk_len {l : List Dep} (h : depsOk l = true) : l.length ≤ 6 := by
  have := depsFrom_len l (-1) h (by omega); omega
theorem verOk_deps {v : Ver} (h : verOk v = true) : v.deps.length ≤ 6 := by
  simp only [verOk, Bool.and_eq_true] at h; exact depsOk_len h.1.2
def chainAt (l : List Ver) (d : Dep) : Option Ver := if chainOk l = true ∧ 0 ≤ placeOf l d then some (elt l (placeOf l d).toNat) else none
theorem at_test (key : Int) (st : Stamp) (v : Ver) : ((v.key == key) && ([v.stamp.time, v.stamp.site] == [st.time, st.site])) = depIs ⟨key, st⟩ v := by
  obtain ⟨t, s⟩ := st
  obtain ⟨vk, ⟨vt, vs⟩, _, _, _, _⟩ := v
  rw [Bool.eq_iff_iff]; simp [depIs, Ver.dep]
theorem chainAt_hit {l : List Ver} {d : Dep} {k : Nat} (hc : chainOk l = true) (hk : k < l.length) (h : ∀ i, i < k → depIs d (elt l i) = false) (hp : depIs d (elt l k) = true) : chainAt l d = some (elt l k) := by
  have e : placeOf l d = k := idx_hit hk h hp
  unfold chainAt; rw [e, if_pos ⟨hc, by omega⟩]; rfl
theorem chainAt_none {l : List Ver} {d : Dep} {k : Nat} (hk : l.length ≤ k) (h : ∀ i, i < k → depIs d (elt l i) = false) : chainAt l d = none := by
  have e : placeOf l d = -1 := idx_none hk h
  unfold chainAt; rw [e, if_neg (by omega)]
theorem chainAt_bad {l : List Ver} {d : Dep} (h : chainOk l = false) : chainAt l d = none := by
  unfold chainAt; rw [if_neg (by rw [h]; simp)]
theorem chainAt_some {l : List Ver} {d : Dep} (hc : chainOk l = true) : (chainAt l d).isSome = decide (0 ≤ placeOf l d) := by
  unfold chainAt
  by_cases h : 0 ≤ placeOf l d
  · rw [if_pos ⟨hc, h⟩]; simp [h]
  · rw [if_neg (by simp [h])]; simp [h]
theorem c_spec_l2Copy (v : Ver) (h : v.deps.length ≤ 1048576) :
    Fn Tryz.prog 145 [v.av] (v.av) := by
 refine Fn.intro 9 Tryz.func145 rfl Tryz.ntmps145 rfl (by kernel_rfl) (fun W I a hs => ?_)
 refine sr <| hs.box rfl .tt fun b1 I a w hs => hs.alloc rfl ty173 zc173 fun b2 I a w hs => nn <| sr ?_
 refine hs.lit0 rfl un87 ty165 (by decide) fun b3 I a w hs => ?_
 refine hs.o .fv fun hs => hs.o (.lb 0) fun hs => ?_
 refine hs.append 2 rfl un87 ty165 rfl .tt .r rfl (by simp; omega) fun v6 a w hs => ?_
 obtain ⟨I, hs, hf⟩ := hs.freezeRow 2 rfl
 have hs := hs.upd (t := 6) rfl hf
 refine hs.o .fv fun hs => ?_
 refine hs.s1 0 fun hs => ?_
 refine nn <| sr <| hs.o (.ls 0) fun hs => ?_
 refine hs.sb 1 fun hs => ?_
 refine nn <| wp_ret ?_
 refine hs.ret rfl (.cons (.s 1 ty173 rfl rfl (by first | rfl | assumption)) ResL.nil) ?_
 rfl
theorem c_spec_ChainAt (l : List Ver) (key : Int) (st : Stamp) :
    Fn Tryz.prog 123 [versAV l, AV.int key, st.av] (AV.tup [((chainAt l ⟨key, st⟩).getD default).av, AV.bool (chainAt l ⟨key, st⟩).isSome]) := by
 refine Fn.intro 41 Tryz.func123 rfl Tryz.ntmps123 rfl (by kernel_rfl) (fun W I a hs => ?_)
 have hle := hs.lenleM (t := 0) rfl
 refine sr <| hs.o .bp fun hs => hs.alloc rfl ty173 zc173 fun b6 I a w hs => hs.sc fun hs => nn <| wp_seq <| sr <| hs.m fun hs => ?_
 refine hs.o (.cl (c_spec_ChainOk ..)) fun hs => ?_
 refine hs.o .nt fun hs => nn ?_
 refine hs.cd (fun hb1 => ?_) fun hb1 => ?_
 ·replace hb1 := nt hb1
  refine sr ?_
  refine hs.o (.bd zc173 Parts.nil) fun hs => ?_
  refine hs.sb 0 fun hs => ?_
  refine hs.sc fun hs => nn <| wp_ret <| then_r ?_
  refine hs.ret rfl (.cons (.s 0 ty173 rfl rfl (by first | rfl | assumption)) (.cons (.t rfl) ResL.nil)) ?_
  exact (by rw [chainAt_bad hb1]; rfl)
 ·replace hb1 := nf hb1
  refine wp_skip <| then_n <| wp_seq <| sr <| hs.sc fun hs => nn <| wp_block ?_
  refine St.lo (σ := Nat) (run 2 7 (run 27 13 [])) ⟨fun k => [(8, AV.int k)], fun k => [Own.box b6 173 [AV.val (.int .i64 0), AV.val (.int .i64 0), AV.val (.int .i64 0), AV.val (.int .i64 0), AV.val (.int .i64 0), AV.val (.int .i64 0), AV.rows 3 []]], fun k => k ≤ l.length ∧ ∀ i, i < k → depIs ⟨key, st⟩ (elt l i) = false⟩ (fun k => l.length - k) 0 hs ?ok1 ?round1
  case ok1 => exact ⟨Nat.zero_le _, fun i hi => by omega⟩
  case round1 =>
   rintro k I a w hok hs
   obtain ⟨hk, hall⟩ := hok
   refine wp_seq <| sr <| hs.m fun hs => hs.m fun hs => ?_
   refine hs.o .ln fun hs => ?_
   refine hs.o .lss fun hs => nn ?_
   refine hs.cd (fun hb2 => ?_) fun hb2 => ?_
   ·try simp only [B] at hb2
    refine wp_skip <| then_n <| wp_seq <| wp_block <| wp_seq <| hs.dk <| .o .mv <| .o .mv ?_
    refine .o .ix ?_
    refine .o .fp <| .o .l1 <| .o .mv <| .o .eqi <| .o .mv <| .q .T .mv <| .q .T .mv ?_
    refine .q .T .ix ?_
    refine .q .T (.fx .ag) ?_
    refine .q .T .la ?_
    refine .q .T .la ?_
    refine .q .T (ok_eqS [_, _] [_, _] eqt115 rfl rfl .ag .ag) ?_
    refine .o .an <| .nil ?_
    intro I a w hs
    refine then_n ?_
    refine hs.cd (fun hb3 => ?_) fun hb3 => ?_
    ·rw [at_test] at hb3
     refine sr <| hs.m fun hs => hs.m fun hs => ?_
     refine hs.o .ix fun hs => ?_
     refine hs.o .la fun hs => ?_
     refine hs.o (ok_call (c_spec_l2Copy _ (by have := verOk_deps (chain_at hb1 hb2); omega)) (args_cons (.t rfl) args_nil)) fun hs => ?_
     refine hs.sb 0 fun hs => ?_
     refine hs.sc fun hs => nn <| wp_ret <| block_r <| then_r <| then_r <| block_r <| then_r ?_
     refine hs.ret rfl (.cons (.s 0 ty173 rfl rfl (by first | rfl | assumption)) (.cons (.t rfl) ResL.nil)) ?_
     exact (by rw [chainAt_hit hb1 hb2 hall hb3]; rfl)
    ·rw [at_test] at hb3
     refine wp_skip <| block_n <| then_n <| St.region <| hs.m fun hs => ?_
     refine hs.o .ad fun hs => ?_
     refine hs.s fun hs => nn ?_
     exact hs.ag (k + 1) (⟨hb2, fun i h1 => by rcases Nat.lt_succ_iff_lt_or_eq.1 h1 with h | h; exact hall i h; rw [h]; exact hb3⟩)
   ·try simp only [B] at hb2
    refine wp_exit <| then_x <| then_x <| block_hit <| then_n <| sr ?_
    refine hs.o (.bd zc173 Parts.nil) fun hs => ?_
    refine hs.sb 0 fun hs => ?_
    refine hs.sc fun hs => nn <| wp_ret ?_
    refine hs.ret rfl (.cons (.s 0 ty173 rfl rfl (by first | rfl | assumption)) (.cons (.t rfl) ResL.nil)) ?_
    exact (by rw [chainAt_none (by omega) hall]; rfl)
def standAt (s : Server) (l : List Ver) (i : Nat) : Bool := standOf s (elt l i).key != 0
def free2 (s : Server) (i : Nat) : Bool := !((decide (0 ≤ placeOf s.vers (elt s.waits i).dep)) || (siteSide (elt s.waits i).stamp.site == siteSide s.site))
def oweAt (s : Server) (i : Nat) : Bool := decide (0 ≤ placeOf s.vers (elt s.owes i))
theorem slot_test2 (x : Slot) : (!inB x.epoch 0 9999 || !inB x.stand 0 2 || ((x.stand != 0) && decide (x.epoch < 1))) = !slotGood x := by
  rw [← slot_test]
  by_cases h : inB x.epoch 0 9999 = true
  · have e : decide (x.epoch < 1) = (x.epoch == 0) := by
      simp [inB] at h
      rw [Bool.eq_iff_iff]; simp; omega
    rw [e]
  · simp [h]
theorem wait_split (s : Server) (i : Nat) : waitAt s i = (standAt s s.waits i && free2 s i) := by
  unfold waitAt waitGood standAt free2
  have e : decide (placeOf s.vers (elt s.waits i).dep < 0) = !decide (0 ≤ placeOf s.vers (elt s.waits i).dep) := by rw [Bool.eq_iff_iff]; simp
  rw [e]
  cases (standOf s (elt s.waits i).key != 0) <;> cases decide (0 ≤ placeOf s.vers (elt s.waits i).dep) <;> simp [bne]
theorem allN_and {n : Nat} {f g : Nat → Bool} : allN n (fun i => f i && g i) = (allN n f && allN n g) := by
  rw [Bool.eq_iff_iff, Bool.and_eq_true, allN_iff, allN_iff, allN_iff]
  exact ⟨fun h => ⟨fun i hi => (Bool.and_eq_true_iff.1 (h i hi)).1, fun i hi => (Bool.and_eq_true_iff.1 (h i hi)).2⟩, fun h i hi => Bool.and_eq_true_iff.2 ⟨h.1 i hi, h.2 i hi⟩⟩
theorem has_owes (s : Server) : hasAll s.vers s.owes = allN s.owes.length (oweAt s) := by
  unfold hasAll hasB
  by_cases h : 0 ≤ idxI (missing s.vers) s.owes
  · obtain ⟨k, hk, hm⟩ := idxI_any h
    have : oweAt s k = false := by
      simp only [missing, decide_eq_true_eq] at hm
      simp only [oweAt, decide_eq_false_iff_not]; omega
    rw [allN_false hk this]; simp [h]
  · have hall := idxI_all (p := missing s.vers) (l := s.owes) (by omega)
    have : allN s.owes.length (oweAt s) = true := by
      rw [allN_iff]
      intro i hi
      have := hall i hi
      simp only [missing, decide_eq_false_iff_not] at this
      simp only [oweAt, decide_eq_true_eq]; omega
    rw [this]; simp [h]
theorem serverOk_spec (s : Server) : serverOk s = (serverHead s && allN s.slots.length (slotAt s) && (allN s.vers.length (standAt s s.vers) && allN s.waits.length (standAt s s.waits)) && allN s.waits.length (free2 s) && allN s.owes.length (oweAt s)) := by
  unfold serverOk
  have e : allN s.waits.length (waitAt s) = (allN s.waits.length (standAt s s.waits) && allN s.waits.length (free2 s)) := by
    rw [← allN_and]; exact allN_congr rfl fun i _ => wait_split s i
  have e2 : allN s.vers.length (verAt s) = allN s.vers.length (standAt s s.vers) := rfl
  rw [e, e2, has_owes]
  cases serverHead s <;> cases allN s.slots.length (slotAt s) <;> cases allN s.vers.length (standAt s s.vers) <;> cases allN s.waits.length (standAt s s.waits) <;> simp
theorem free_test (s : Server) (i : Nat) (hc : chainOk s.vers = true) : ((chainAt s.vers ⟨(elt s.waits i).key, (elt s.waits i).stamp⟩).isSome || (siteSide (elt s.waits i).stamp.site == siteSide s.site)) = !free2 s i := by
  rw [chainAt_some hc]
  show _ = !!(_ || _)
  rw [Bool.not_not]; rfl
theorem owe_test (s : Server) (i : Nat) (hc : chainOk s.vers = true) : (!(chainAt s.vers ⟨(elt s.owes i).key, (elt s.owes i).stamp⟩).isSome) = !oweAt s i := by
  rw [chainAt_some hc]; simp [oweAt]
theorem c_spec_l21Vers (s : Server) (l : List Ver) (hl : s.slots.length = 3) (hc : chainOk l = true) :
    Fn Tryz.prog 153 [s.av, versAV l] (AV.bool (allN l.length (standAt s l))) := by
 refine Fn.intro 20 Tryz.func153 rfl Tryz.ntmps153 rfl (by kernel_rfl) (fun W I a hs => ?_)
 have hle := hs.lenleM (t := 1) rfl
 refine sr <| hs.o .bp fun hs => hs.sc fun hs => nn <| wp_seq <| sr <| hs.sc fun hs => nn <| wp_block ?_
 refine St.lo (σ := Nat) (run 16 4 []) ⟨fun k => [(5, AV.int k)], fun k => [], fun k => k ≤ l.length ∧ ∀ i, i < k → (standAt s l) i = true⟩ (fun k => l.length - k) 0 hs ?ok1 ?round1
 case ok1 => exact ⟨Nat.zero_le _, fun i hi => by omega⟩
 case round1 =>
  rintro k I a w hok hs
  obtain ⟨hk_k, hall⟩ := hok
  refine wp_seq <| sr <| hs.m fun hs => hs.m fun hs => ?_
  refine hs.o .ln fun hs => ?_
  refine hs.o .lss fun hs => nn ?_
  refine hs.cd (fun hb1 => ?_) fun hb1 => ?_
  ·try simp only [B] at hb1
   refine wp_skip <| then_n <| wp_seq <| wp_block <| wp_seq <| hs.dk ?_
   refine .o .la ?_
   refine .o .mv <| .o .mv ?_
   refine .o .ix ?_
   refine .o .fp <| .o .l1 <| .o (.c2 (c_spec_l21Here _ _ (verOk_key (chain_at hc hb1)) hl)) <| .o .nt <| .nil ?_
   intro I a w hs
   refine then_n ?_
   refine hs.cd (fun hb2 => ?_) fun hb2 => ?_
   ·replace hb2 := nt hb2
    refine sr <| hs.sc fun hs => nn <| wp_ret <| block_r <| then_r <| then_r <| block_r <| then_r ?_
    refine hs.rt ?_
    exact ret_bool (allN_false (f := standAt s l) hb1 hb2).symm
   ·replace hb2 := nf hb2
    refine wp_skip <| block_n <| then_n <| St.region <| hs.m fun hs => ?_
    refine hs.o .ad fun hs => ?_
    refine hs.s fun hs => nn ?_
    exact hs.ag (k + 1) (⟨by omega, allN_next hall hb2⟩)
  ·try simp only [B] at hb1
   refine wp_exit <| then_x <| then_x <| block_hit <| then_n <| sr <| hs.sc fun hs => nn <| wp_ret ?_
   refine hs.rt ?_
   exact ret_bool (allN_true hall (by omega)).symm
set_option maxHeartbeats 4000000 in
theorem c_spec_ServerOk (s : Server) :
    Fn Tryz.prog 116 [s.av] (AV.bool (serverOk s)) := by
 refine Fn.intro 177 Tryz.func116 rfl Tryz.ntmps116 rfl (by kernel_rfl) (fun W I a hs => ?_)
 have lens : s.slots.length ≤ 9223372036854775807 ∧ s.vers.length ≤ 9223372036854775807 ∧ s.waits.length ≤ 9223372036854775807 ∧ s.owes.length ≤ 9223372036854775807 := by
    obtain ⟨cs, _, hc⟩ := hs.env 0 _ rfl
    obtain ⟨u1, _, h1, _⟩ := hc.get (i := 2) rfl
    obtain ⟨u2, _, h2, _⟩ := hc.get (i := 3) rfl
    obtain ⟨u3, _, h3, _⟩ := hc.get (i := 4) rfl
    obtain ⟨u4, _, h4, _⟩ := hc.get (i := 5) rfl
    exact ⟨rows_le h1, rows_le h2, rows_le h3, rows_le h4⟩
 refine sr <| hs.o .bp fun hs => hs.sc fun hs => nn <| wp_seq <| sr <| hs.o .fp fun hs => hs.o .l1 fun hs => hs.o (.c1 (c_spec_l1Site ..)) fun hs => hs.o .nt fun hs => hs.m fun hs => hs.q .F .fp fun hs => ?_
 refine hs.q .F (.lx .ag) fun hs => ?_
 refine hs.q .F .ln fun hs => ?_
 refine hs.q .F (ok_nei .ag .c) fun hs => ?_
 refine hs.o .or fun hs => hs.m fun hs => hs.q .F .fp fun hs => ?_
 refine hs.q .F (.lx .ag) fun hs => ?_
 refine hs.q .F (.cl (c_spec_ChainOk ..)) fun hs => ?_
 refine hs.q .F (.ntx .ag) fun hs => ?_
 refine hs.o .or fun hs => hs.m fun hs => hs.q .F .fp fun hs => ?_
 refine hs.q .F (.lx .ag) fun hs => ?_
 refine hs.q .F (.cl (c_spec_ChainOk ..)) fun hs => ?_
 refine hs.q .F (.ntx .ag) fun hs => ?_
 refine hs.o .or fun hs => hs.m fun hs => hs.q .F .fp fun hs => ?_
 refine hs.q .F (.lx .ag) fun hs => ?_
 refine hs.q .F (.cl (c_spec_l11Owes ..)) fun hs => ?_
 refine hs.q .F (.ntx .ag) fun hs => ?_
 refine hs.o .or fun hs => hs.m fun hs => hs.q .F .fp fun hs => ?_
 refine hs.q .F (.lx .ag) fun hs => ?_
 refine hs.q .F (.cl (c_spec_l11Owes ..)) fun hs => ?_
 refine hs.q .F (.ntx .ag) fun hs => ?_
 refine hs.o .or fun hs => hs.m fun hs => hs.q .F .fp fun hs => ?_
 refine hs.q .F (.lx .ag) fun hs => ?_
 refine hs.q .F (.ntx .ag) fun hs => ?_
 refine hs.q .F (.mx .ag) fun hs => ?_
 refine hs.q .T2 .fp fun hs => ?_
 refine hs.q .T2 (.lx .ag) fun hs => ?_
 refine hs.q .T2 .ln fun hs => ?_
 refine hs.q .T2 (ok_gtr .ag .c) fun hs => ?_
 refine hs.q .F (ok_and .ag .pc .c) fun hs => ?_
 refine hs.o .or fun hs => nn ?_
 refine hs.cd (fun hb1 => ?_) fun hb1 => ?_
 ·rw [srv_test] at hb1; replace hb1 := nt hb1
  refine sr <| hs.sc fun hs => nn <| wp_ret <| then_r ?_
  refine hs.rt ?_
  exact ret_bool (by unfold serverOk; rw [hb1]; rfl)
 ·rw [srv_test] at hb1; replace hb1 := nf hb1; obtain ⟨hl3, hcv, hcw, hco, hck, hsi⟩ := head_parts hb1
  refine wp_skip <| then_n <| wp_seq <| sr <| hs.sc fun hs => nn <| wp_block ?_
  refine St.lo (σ := Nat) (run 2 2 (run 43 55 [])) ⟨fun k1 => [(3, AV.int k1)], fun k1 => [], fun k1 => k1 ≤ s.slots.length ∧ ∀ i, i < k1 → (slotAt s) i = true⟩ (fun k1 => s.slots.length - k1) 0 hs ?ok1 ?round1
  case ok1 => exact ⟨Nat.zero_le _, fun i hi => by omega⟩
  case round1 =>
   rintro k1 I a w hok hs
   obtain ⟨hk_k1, hall1⟩ := hok
   refine wp_seq <| sr <| hs.m fun hs => hs.o .fp fun hs => hs.o .l1 fun hs => ?_
   refine hs.o .ln fun hs => ?_
   refine hs.o .lss fun hs => nn ?_
   refine hs.cd (fun hb2 => ?_) fun hb2 => ?_
   ·try simp only [B] at hb2
    refine wp_skip <| then_n <| wp_seq <| wp_block <| sr <| hs.o .fp fun hs => hs.o .l1 fun hs => hs.m fun hs => ?_
    refine hs.o .ix fun hs => ?_
    refine hs.o .fp fun hs => hs.o .l1 fun hs => ?_
    refine hs.o (.cl (c_spec_l6In ..)) fun hs => ?_
    refine hs.o .nt fun hs => hs.m fun hs => hs.q .F .fp fun hs => ?_
    refine hs.q .F (.lx .ag) fun hs => ?_
    refine hs.q .F .mv fun hs => ?_
    refine hs.q .F .ix fun hs => ?_
    refine hs.q .F (.fx .ag) fun hs => ?_
    refine hs.q .F (.lx .ag) fun hs => ?_
    refine hs.q .F (.cl (c_spec_l6In ..)) fun hs => ?_
    refine hs.q .F (.ntx .ag) fun hs => ?_
    refine hs.o .or fun hs => hs.m fun hs => hs.q .F .fp fun hs => ?_
    refine hs.q .F (.lx .ag) fun hs => ?_
    refine hs.q .F .mv fun hs => ?_
    refine hs.q .F .ix fun hs => ?_
    refine hs.q .F (.fx .ag) fun hs => ?_
    refine hs.q .F (.lx .ag) fun hs => ?_
    refine hs.q .F (ok_nei .ag .c) fun hs => ?_
    refine hs.q .F (.mx .ag) fun hs => ?_
    refine hs.q .T2 .fp fun hs => ?_
    refine hs.q .T2 (.lx .ag) fun hs => ?_
    refine hs.q .T2 .mv fun hs => ?_
    refine hs.q .T2 .ix fun hs => ?_
    refine hs.q .T2 (.fx .ag) fun hs => ?_
    refine hs.q .T2 (.lx .ag) fun hs => ?_
    refine hs.q .T2 (ok_lss .ag .c) fun hs => ?_
    refine hs.q .F (ok_and .ag .pc .c) fun hs => ?_
    refine hs.o .or fun hs => nn ?_
    refine hs.cd (fun hb3 => ?_) fun hb3 => ?_
    ·rw [slot_test2] at hb3; replace hb3 := nt hb3
     refine sr <| hs.sc fun hs => nn <| wp_ret <| block_r <| then_r <| then_r <| block_r <| then_r ?_
     refine hs.rt ?_
     exact ret_bool (by rw [serverOk_spec, hb1, allN_false (f := slotAt s) hb2 hb3]; simp)
    ·rw [slot_test2] at hb3; replace hb3 := nf hb3
     refine wp_skip <| block_n <| then_n <| St.region <| hs.m fun hs => ?_
     refine hs.o .ad fun hs => ?_
     refine hs.s fun hs => nn ?_
     exact hs.ag (k1 + 1) (⟨by omega, allN_next hall1 hb3⟩)
   ·try simp only [B] at hb2
    refine wp_exit <| then_x <| then_x <| block_hit <| then_n <| wp_seq <| sr ?_
    refine hs.o .la fun hs => ?_
    refine hs.o .fp fun hs => hs.o .l1 fun hs => ?_
    refine hs.o (.cl (c_spec_l21Vers _ _ hl3 hcv)) fun hs => ?_
    refine hs.o .nt fun hs => hs.m fun hs => ?_
    refine hs.q .F .la fun hs => ?_
    refine hs.q .F .fp fun hs => ?_
    refine hs.q .F (.lx .ag) fun hs => ?_
    refine hs.q .F (.cl (c_spec_l21Vers _ _ hl3 hcw)) fun hs => ?_
    refine hs.q .F (.ntx .ag) fun hs => ?_
    refine hs.o .or fun hs => nn ?_
    refine hs.cd (fun hb4 => ?_) fun hb4 => ?_
    ·skip
     refine sr <| hs.sc fun hs => nn <| wp_ret <| then_r ?_
     refine hs.rt ?_
     exact ret_bool (by rw [serverOk_spec, hb1]; revert hb4; cases allN s.vers.length (standAt s s.vers) <;> cases allN s.waits.length (standAt s s.waits) <;> simp)
    ·rw [Bool.or_eq_false_iff] at hb4; obtain ⟨hv4, hw4⟩ := hb4; replace hv4 := nf hv4; replace hw4 := nf hw4
     refine wp_skip <| then_n <| wp_seq <| sr <| hs.sc fun hs => nn <| wp_block ?_
     refine St.lo (σ := Nat) (2 :: (run 3 4 (run 40 110 []))) ⟨fun k2 => [(4, AV.int k2)], fun k2 => [], fun k2 => k2 ≤ s.waits.length ∧ ∀ i, i < k2 → (free2 s) i = true⟩ (fun k2 => s.waits.length - k2) 0 hs ?ok2 ?round2
     case ok2 => exact ⟨Nat.zero_le _, fun i hi => by omega⟩
     case round2 =>
      rintro k2 I a w hok hs
      obtain ⟨hk_k2, hall2⟩ := hok
      refine wp_seq <| sr <| hs.m fun hs => hs.o .fp fun hs => hs.o .l1 fun hs => ?_
      refine hs.o .ln fun hs => ?_
      refine hs.o .lss fun hs => nn ?_
      refine hs.cd (fun hb5 => ?_) fun hb5 => ?_
      ·try simp only [B] at hb5
       refine wp_skip <| then_n <| wp_seq <| wp_block <| wp_seq ?_
       have hs := hs.ownGone
       refine hs.drawD [([], none), ([], none), ([], none), ([], none), ([], none), ([], none), ([], none), ([], none), ([], none), ([], none), ([], none), ([], none), ([], none), ([], none), ([], none), ([], none), ([], none), ([], none), ([0], some (0, [5])), ([0], some (0, [5])), ([], none)] (by kernel_rfl) (by kernel_rfl) rfl ?_
       refine .o .fp <| .o .l1 <| .o .fp <| .o .l1 <| .o .mv ?_
       refine .o .ix ?_
       refine .o .fp <| .o .l1 <| .o .fp <| .o .l1 <| .o .mv ?_
       refine .o .ix ?_
       refine .o .fp ?_
       refine .o .la ?_
       refine .o (.cl (c_spec_ChainAt ..)) ?_
       refine .o .mv <| .o .e <| .o .e <| RunD.alloc 0 rfl rfl ty173 zc173 <| RunD.storeN 0 rfl ty173 rfl .tt rfl rfl <| .o .as <| .nil ?_
       intro I a w hs
       obtain ⟨b5, hs⟩ := hs.openAt (d := 5) 0 rfl rfl
       obtain ⟨I, hs, hf⟩ := hs.freezeBox 0 rfl
       have hs := hs.upd (t := 5) rfl hf; clear hf
       refine then_n <| wp_seq <| hs.dk <| .o .mv <| .o .mv <| .q .F .fp ?_
       refine .q .F (.lx .ag) ?_
       refine .q .F .mv ?_
       refine .q .F .ix ?_
       refine .q .F (.fx .ag) ?_
       refine .q .F (.fx .ag) ?_
       refine .q .F (.lx .ag) ?_
       refine .q .F (.cl (c_spec_SiteSide ..)) ?_
       refine .q .F .fp ?_
       refine .q .F (.lx .ag) ?_
       refine .q .F (.cl (c_spec_SiteSide ..)) ?_
       refine .q .F (ok_eqi .ag .ag) ?_
       refine .o .or <| .nil ?_
       intro I a w hs
       refine then_n ?_
       refine hs.cd (fun hb6 => ?_) fun hb6 => ?_
       ·rw [free_test s _ hcv] at hb6; replace hb6 := nt hb6
        refine sr <| hs.sc fun hs => nn <| wp_ret <| block_r <| then_r <| then_r <| block_r <| then_r ?_
        refine hs.rt ?_
        exact ret_bool (by rw [serverOk_spec, hb1, allN_false (f := free2 s) hb5 hb6]; simp)
       ·rw [free_test s _ hcv] at hb6; replace hb6 := nf hb6
        refine wp_skip <| block_n <| then_n <| St.region <| hs.m fun hs => ?_
        refine hs.o .ad fun hs => ?_
        refine hs.s fun hs => nn ?_
        have hs := hs.drop 0
        exact hs.ag (k2 + 1) (⟨by omega, allN_next hall2 hb6⟩)
      ·try simp only [B] at hb5
       refine wp_exit <| then_x <| then_x <| block_hit <| then_n <| wp_seq <| sr <| hs.sc fun hs => nn <| wp_block ?_
       refine St.lo (σ := Nat) (2 :: (run 3 7 (run 27 150 []))) ⟨fun k3 => [(7, AV.int k3)], fun k3 => [], fun k3 => k3 ≤ s.owes.length ∧ ∀ i, i < k3 → (oweAt s) i = true⟩ (fun k3 => s.owes.length - k3) 0 hs ?ok3 ?round3
       case ok3 => exact ⟨Nat.zero_le _, fun i hi => by omega⟩
       case round3 =>
        rintro k3 I a w hok hs
        obtain ⟨hk_k3, hall3⟩ := hok
        refine wp_seq <| sr <| hs.m fun hs => hs.o .fp fun hs => hs.o .l1 fun hs => ?_
        refine hs.o .ln fun hs => ?_
        refine hs.o .lss fun hs => nn ?_
        refine hs.cd (fun hb7 => ?_) fun hb7 => ?_
        ·try simp only [B] at hb7
         refine wp_skip <| then_n <| wp_seq <| wp_block <| wp_seq ?_
         have hs := hs.ownGone
         refine hs.drawD [([], none), ([], none), ([], none), ([], none), ([], none), ([], none), ([], none), ([], none), ([], none), ([], none), ([], none), ([], none), ([], none), ([], none), ([], none), ([], none), ([], none), ([], none), ([0], some (0, [8])), ([0], some (0, [8])), ([], none)] (by kernel_rfl) (by kernel_rfl) rfl ?_
         refine .o .fp <| .o .l1 <| .o .fp <| .o .l1 <| .o .mv ?_
         refine .o .ix ?_
         refine .o .fp <| .o .l1 <| .o .fp <| .o .l1 <| .o .mv ?_
         refine .o .ix ?_
         refine .o .fp ?_
         refine .o .la ?_
         refine .o (.cl (c_spec_ChainAt ..)) ?_
         refine .o .mv <| .o .e <| .o .e <| RunD.alloc 0 rfl rfl ty173 zc173 <| RunD.storeN 0 rfl ty173 rfl .tt rfl rfl <| .o .as <| .nil ?_
         intro I a w hs
         obtain ⟨b8, hs⟩ := hs.openAt (d := 8) 0 rfl rfl
         obtain ⟨I, hs, hf⟩ := hs.freezeBox 0 rfl
         have hs := hs.upd (t := 8) rfl hf; clear hf
         refine then_n <| sr <| hs.m fun hs => hs.o .nt fun hs => nn ?_
         refine hs.cd (fun hb8 => ?_) fun hb8 => ?_
         ·rw [owe_test s _ hcv] at hb8; replace hb8 := nt hb8
          refine sr <| hs.sc fun hs => nn <| wp_ret <| block_r <| then_r <| then_r <| block_r <| then_r ?_
          refine hs.rt ?_
          exact ret_bool (by rw [serverOk_spec, hb1, allN_false (f := oweAt s) hb7 hb8]; simp)
         ·rw [owe_test s _ hcv] at hb8; replace hb8 := nf hb8
          refine wp_skip <| block_n <| then_n <| St.region <| hs.m fun hs => ?_
          refine hs.o .ad fun hs => ?_
          refine hs.s fun hs => nn ?_
          have hs := hs.drop 0
          exact hs.ag (k3 + 1) (⟨by omega, allN_next hall3 hb8⟩)
        ·try simp only [B] at hb7
         refine wp_exit <| then_x <| then_x <| block_hit <| then_n <| sr <| hs.sc fun hs => nn <| wp_ret ?_
         refine hs.rt ?_
         exact ret_bool (by rw [serverOk_spec, hb1, allN_true hall1 (by omega), hv4, hw4, allN_true hall2 (by omega), allN_true hall3 (by omega)]; rfl)
end Go.Proofs.YtkoebplikhlapaaGreatDoor
