/- Part 19: rules of the proofs, contracts of functions, plain facts. -/
import Derived.Maps.Own
import Derived.Maps.Views
import Derived.Test.YtkoebplikhlapaaGreatDoorP17
set_option linter.unusedVariables false
set_option linter.unusedSimpArgs false
set_option maxRecDepth 100000
namespace Go.Proofs.YtkoebplikhlapaaGreatDoor
open Go Go.RowKit
theorem c_spec_l31Has (l : List Int) (key : Int) :
    Fn Tryz.prog 140 [intsAV l, AV.int key] (AV.bool (hasKey l key)) := by
 refine Fn.intro 18 Tryz.func140 rfl Tryz.ntmps140 rfl (by kernel_rfl) (fun W I a hs => ?_)
 have hle := hs.lenleM (t := 0) rfl
 refine sr <| hs.sc fun hs => nn <| wp_seq <| sr <| hs.sc fun hs => nn <| wp_block ?_
 refine St.lo (σ := Nat) (run 14 4 []) ⟨fun k => [(5, AV.int k)], fun k => [], fun k => k ≤ l.length ∧ ∀ i, i < k → intIs key (elt l i) = false⟩ (fun k => l.length - k) 0 hs ?ok1 ?round1
 case ok1 => exact ⟨Nat.zero_le _, fun i hi => by omega⟩
 case round1 =>
  rintro k I a w hok hs
  obtain ⟨hk, hall⟩ := hok
  refine wp_seq <| sr <| hs.m fun hs => hs.m fun hs => ?_
  refine hs.o .ln fun hs => ?_
  refine hs.o .lss fun hs => nn ?_
  refine hs.cd (fun hb1 => ?_) fun hb1 => ?_
  ·try simp only [B] at hb1
   refine wp_skip <| then_n <| wp_seq <| wp_block <| sr <| hs.m fun hs => hs.m fun hs => ?_
   refine hs.o .ix fun hs => ?_
   refine hs.o .l1 fun hs => hs.m fun hs => hs.o .eqi fun hs => nn ?_
   refine hs.cd (fun hb2 => ?_) fun hb2 => ?_
   ·skip
    refine sr <| hs.sc fun hs => nn <| wp_ret <| block_r <| then_r <| then_r <| block_r <| then_r ?_
    refine hs.rt ?_
    exact ret_bool (mem_hasB (elt_mem hb1) hb2).symm
   ·skip
    refine wp_skip <| block_n <| then_n <| St.region <| hs.m fun hs => ?_
    refine hs.o .ad fun hs => ?_
    refine hs.s fun hs => nn ?_
    exact hs.ag (k + 1) (⟨by omega, fun i h1 => by rcases Nat.lt_succ_iff_lt_or_eq.1 h1 with h | h; exact hall i h; rw [h]; exact hb2⟩)
  ·try simp only [B] at hb1
   refine wp_exit <| then_x <| then_x <| block_hit <| then_n <| sr <| hs.sc fun hs => nn <| wp_ret ?_
   refine hs.rt ?_
   exact ret_bool (by unfold hasKey hasB; rw [idx_none (by omega) hall]; rfl)
theorem c_spec_l31Got (q : Call) (key : Int) :
    Fn Tryz.prog 113 [q.av, AV.int key] (AV.int (gotI q key)) := by
 refine Fn.intro 22 Tryz.func113 rfl Tryz.ntmps113 rfl (by kernel_rfl) (fun W I a hs => ?_)
 have lens : q.keys.length ≤ 9223372036854775807 ∧ q.got.length ≤ 9223372036854775807 ∧ q.needs.length ≤ 9223372036854775807 := by
    obtain ⟨cs, _, hc⟩ := hs.env 0 _ rfl
    obtain ⟨u1, _, h1, _⟩ := hc.get (i := 3) rfl
    obtain ⟨u2, _, h2, _⟩ := hc.get (i := 11) rfl
    obtain ⟨u3, _, h3, _⟩ := hc.get (i := 12) rfl
    exact ⟨rows_le h1, rows_le h2, rows_le h3⟩
 refine sr <| hs.o .bp fun hs => hs.sc fun hs => nn <| wp_seq <| sr <| hs.sc fun hs => nn <| wp_block ?_
 refine St.lo (σ := Nat) (run 18 4 []) ⟨fun k => [(5, AV.int k)], fun k => [], fun k => k ≤ q.got.length ∧ ∀ i, i < k → ansIs key (elt q.got i) = false⟩ (fun k => q.got.length - k) 0 hs ?ok1 ?round1
 case ok1 => exact ⟨Nat.zero_le _, fun i hi => by omega⟩
 case round1 =>
  rintro k I a w hok hs
  obtain ⟨hk, hall⟩ := hok
  refine wp_seq <| sr <| hs.m fun hs => hs.o .fp fun hs => hs.o .l1 fun hs => ?_
  refine hs.o .ln fun hs => ?_
  refine hs.o .lss fun hs => nn ?_
  refine hs.cd (fun hb1 => ?_) fun hb1 => ?_
  ·try simp only [B] at hb1
   refine wp_skip <| then_n <| wp_seq <| wp_block <| sr <| hs.o .fp fun hs => hs.o .l1 fun hs => hs.m fun hs => ?_
   refine hs.o .ix fun hs => ?_
   refine hs.o .fp fun hs => hs.o .l1 fun hs => hs.m fun hs => hs.o .eqi fun hs => nn ?_
   refine hs.cd (fun hb2 => ?_) fun hb2 => ?_
   ·skip
    refine sr <| hs.m fun hs => hs.s fun hs => nn <| wp_ret <| block_r <| then_r <| then_r <| block_r <| then_r ?_
    refine hs.rt ?_
    exact ret_int (idx_hit hb1 hall hb2).symm
   ·skip
    refine wp_skip <| block_n <| then_n <| St.region <| hs.m fun hs => ?_
    refine hs.o .ad fun hs => ?_
    refine hs.s fun hs => nn ?_
    exact hs.ag (k + 1) (⟨by omega, fun i h1 => by rcases Nat.lt_succ_iff_lt_or_eq.1 h1 with h | h; exact hall i h; rw [h]; exact hb2⟩)
  ·try simp only [B] at hb1
   refine wp_exit <| then_x <| then_x <| block_hit <| then_n <| sr <| hs.sc fun hs => nn <| wp_ret ?_
   refine hs.rt ?_
   exact ret_int (idx_none (by omega) hall).symm
theorem elts_eq {α : Type} [Inhabited α] {l m : List α} (h : l.length = m.length) (he : ∀ i, i < l.length → elt l i = elt m i) : l = m := by
  apply List.ext_getElem h
  intro i h1 h2
  have := he i h1
  simpa [elt, h1, h2] using this
theorem stamp_neq0 (s : Stamp) : ([s.time, s.site] != [0, 0]) = !stampNone s := by
  rw [Bool.eq_iff_iff]; simp [stampNone]; omega
theorem stamp_eq0 (s : Stamp) : ([s.time, s.site] == [0, 0]) = stampNone s := by
  rw [Bool.eq_iff_iff]; simp [stampNone]
theorem ans2_test (q : Call) (k : Nat) : (!ansGood2 (elt q.got k) || !hasKey q.keys (elt q.got k).key || (decide (0 < (k : Int)) && decide ((elt q.got k).key ≤ (elt q.got ((k : Int) - 1).toNat).key))) = !ans2At q k := by
  unfold ans2At
  rw [Bool.or_assoc, ans_test]; simp
theorem need2_test (q : Call) (k : Nat) : (decide (gotI q (elt q.needs k).key < 0) || !stampLess (elt q.got (gotI q (elt q.needs k).key).toNat).ver.stamp (elt q.needs k).stamp) = !need2At q k := by
  unfold need2At
  have e : decide (gotI q (elt q.needs k).key < 0) = !decide (0 ≤ gotI q (elt q.needs k).key) := by rw [Bool.eq_iff_iff]; simp
  rw [e]; simp
theorem good2_test (x : Answer) (h : x.yes = false) : (keyB x.key && (x.ver.key == 0) && (x.ver.val == 0) && (x.ver.client == 0) && (x.ver.call == 0) && stampNone x.ver.stamp && ((x.ver.deps.length : Int) == 0)) = ansGood2 x := by
  unfold ansGood2
  rw [h]
  obtain ⟨k, y, ⟨vk, ⟨t, s⟩, vv, vc, vl, vd⟩⟩ := x
  simp only [verIs, ver0, stampNone]
  rw [Bool.eq_iff_iff]
  simp
  constructor
  · rintro ⟨⟨⟨⟨⟨⟨h1, h2⟩, h3⟩, h4⟩, h5⟩, h6⟩, h7⟩
    exact ⟨h1, h2, h6, h3, h4, h5, h7⟩
  · rintro ⟨h1, h2, h6, h3, h4, h5, h7⟩
    exact ⟨⟨⟨⟨⟨⟨h1, h2⟩, h3⟩, h4⟩, h5⟩, h6⟩, h7⟩
theorem c_spec_l31Keys (q : Call) :
    Fn Tryz.prog 136 [q.av] (AV.bool (keys2 q)) := by
 refine Fn.intro 57 Tryz.func136 rfl Tryz.ntmps136 rfl (by kernel_rfl) (fun W I a hs => ?_)
 have lens : q.keys.length ≤ 9223372036854775807 ∧ q.got.length ≤ 9223372036854775807 ∧ q.needs.length ≤ 9223372036854775807 := by
    obtain ⟨cs, _, hc⟩ := hs.env 0 _ rfl
    obtain ⟨u1, _, h1, _⟩ := hc.get (i := 3) rfl
    obtain ⟨u2, _, h2, _⟩ := hc.get (i := 11) rfl
    obtain ⟨u3, _, h3, _⟩ := hc.get (i := 12) rfl
    exact ⟨rows_le h1, rows_le h2, rows_le h3⟩
 refine sr <| hs.o .bp fun hs => hs.sc fun hs => nn <| wp_seq <| sr <| hs.o .fp fun hs => hs.o .l1 fun hs => ?_
 refine hs.o .ln fun hs => ?_
 refine hs.o .lssc fun hs => hs.m fun hs => hs.q .F .fp fun hs => ?_
 refine hs.q .F (.lx .ag) fun hs => ?_
 refine hs.q .F .ln fun hs => ?_
 refine hs.q .F (ok_gtr .ag .c) fun hs => ?_
 refine hs.o .or fun hs => hs.m fun hs => hs.q .F .fp fun hs => ?_
 refine hs.q .F (.lx .ag) fun hs => ?_
 refine hs.q .F (ok_eqi .ag .c) fun hs => ?_
 refine hs.q .F (.mx .ag) fun hs => ?_
 refine hs.q .T2 .fp fun hs => ?_
 refine hs.q .T2 (.lx .ag) fun hs => ?_
 refine hs.q .T2 .ln fun hs => ?_
 refine hs.q .T2 (ok_nei .ag .c) fun hs => ?_
 refine hs.q .F (ok_and .ag .pc .c) fun hs => ?_
 refine hs.o .or fun hs => nn ?_
 refine hs.cd (fun hb1 => ?_) fun hb1 => ?_
 ·skip
  refine sr <| hs.sc fun hs => nn <| wp_ret <| then_r ?_
  refine hs.rt ?_
  exact ret_bool (by unfold keys2; rw [hb1]; rfl)
 ·skip
  refine wp_skip <| then_n <| wp_seq <| sr <| hs.sc fun hs => nn <| wp_block ?_
  refine St.lo (σ := Nat) (run 2 2 (run 32 25 [])) ⟨fun k => [(3, AV.int k)], fun k => [], fun k => k ≤ q.keys.length ∧ ∀ i, i < k → (linkB keyB ltI q.keys) i = true⟩ (fun k => q.keys.length - k) 0 hs ?ok1 ?round1
  case ok1 => exact ⟨Nat.zero_le _, fun i hi => by omega⟩
  case round1 =>
   rintro k I a w hok hs
   obtain ⟨hk_k, hall⟩ := hok
   refine wp_seq <| sr <| hs.m fun hs => hs.o .fp fun hs => hs.o .l1 fun hs => ?_
   refine hs.o .ln fun hs => ?_
   refine hs.o .lss fun hs => nn ?_
   refine hs.cd (fun hb2 => ?_) fun hb2 => ?_
   ·try simp only [B] at hb2
    refine wp_skip <| then_n <| wp_seq <| wp_block <| wp_seq <| hs.dk <| .o .fp <| .o .l1 <| .o .mv ?_
    refine .o .ix ?_
    refine .o .l1 <| .o (.c1 (c_spec_l2Key ..)) <| .o .nt <| .o .mv <| .q .F .mv ?_
    refine .q .F (ok_gtr .ag .c) ?_
    refine .q .F (.mx .ag) ?_
    refine .q .T2 .fp ?_
    refine .q .T2 (.lx .ag) ?_
    refine .q .T2 .mv ?_
    refine .q .T2 (ok_sub .ag .c (fun hg => by simp at hg; omega)) ?_
    refine .q .T2 .ix ?_
    refine .q .T2 (.lx .ag) ?_
    refine .q .T2 .fp ?_
    refine .q .T2 (.lx .ag) ?_
    refine .q .T2 .mv ?_
    refine .q .T2 .ix ?_
    refine .q .T2 (.lx .ag) ?_
    refine .q .T2 (ok_geq .ag .ag) ?_
    refine .q .F (ok_and .ag .pc .c) ?_
    refine .o .or <| .nil ?_
    intro I a w hs
    refine then_n ?_
    refine hs.cd (fun hb3 => ?_) fun hb3 => ?_
    ·rw [keys_test2] at hb3; replace hb3 := nt hb3
     refine sr <| hs.sc fun hs => nn <| wp_ret <| block_r <| then_r <| then_r <| block_r <| then_r ?_
     refine hs.rt ?_
     exact ret_bool (by unfold keys2 keysUp; rw [allN_false (f := linkB keyB ltI q.keys) hb2 hb3]; simp)
    ·rw [keys_test2] at hb3; replace hb3 := nf hb3
     refine wp_skip <| block_n <| then_n <| St.region <| hs.m fun hs => ?_
     refine hs.o .ad fun hs => ?_
     refine hs.s fun hs => nn ?_
     exact hs.ag (k + 1) (⟨by omega, allN_next hall hb3⟩)
   ·try simp only [B] at hb2
    refine wp_exit <| then_x <| then_x <| block_hit <| then_n <| sr <| hs.sc fun hs => nn <| wp_ret ?_
    refine hs.rt ?_
    exact ret_bool (by unfold keys2 keysUp; rw [hb1, allN_true hall (by omega)]; rfl)
set_option maxHeartbeats 4000000 in
theorem c_spec_l31Answer (x : Answer) :
    Fn Tryz.prog 139 [x.av] (AV.bool (ansGood2 x)) := by
 refine Fn.intro 55 Tryz.func139 rfl Tryz.ntmps139 rfl (by kernel_rfl) (fun W I a hs => ?_)
 refine sr <| hs.o .bp fun hs => hs.sc fun hs => nn <| wp_seq <| sr <| hs.o .fp fun hs => hs.o .l1 fun hs => hs.o .nt fun hs => nn ?_
 refine hs.cd (fun hb1 => ?_) fun hb1 => ?_
 ·try simp only [B] at hb1
  refine sr <| hs.o .fp fun hs => ?_
  refine hs.o .la fun hs => ?_
  refine hs.alloc rfl ty173 zc173 fun b3 I a w hs => ?_
  refine hs.sb 0 fun hs => ?_
  obtain ⟨I, hs, hf⟩ := hs.freezeBox 0 rfl
  have hs := hs.upd (t := 3) rfl hf; clear hf
  refine nn <| sr <| hs.o .fp fun hs => hs.o .l1 fun hs => hs.o (.c1 (c_spec_l2Key ..)) fun hs => hs.m fun hs => hs.q .T .fp fun hs => ?_
  refine hs.q .T (.lx .ag) fun hs => ?_
  refine hs.q .T (ok_eqi .ag .c) fun hs => ?_
  refine hs.o .an fun hs => hs.m fun hs => hs.q .T .fp fun hs => ?_
  refine hs.q .T (.lx .ag) fun hs => ?_
  refine hs.q .T (ok_eqi .ag .c) fun hs => ?_
  refine hs.o .an fun hs => hs.m fun hs => hs.q .T .fp fun hs => ?_
  refine hs.q .T (.lx .ag) fun hs => ?_
  refine hs.q .T (ok_eqi .ag .c) fun hs => ?_
  refine hs.o .an fun hs => hs.m fun hs => hs.q .T .fp fun hs => ?_
  refine hs.q .T (.lx .ag) fun hs => ?_
  refine hs.q .T (ok_eqi .ag .c) fun hs => ?_
  refine hs.o .an fun hs => hs.m fun hs => hs.q .T .fp fun hs => ?_
  refine hs.q .T .la fun hs => ?_
  refine hs.q .T (.bd zc115 Parts.nil) fun hs => ?_
  refine hs.q .T (ok_eqS [_, _] [_, _] eqt115 rfl rfl .ag .ag) fun hs => ?_
  refine hs.o .an fun hs => hs.m fun hs => hs.q .T .fp fun hs => ?_
  refine hs.q .T (.lx .ag) fun hs => ?_
  refine hs.q .T .ln fun hs => ?_
  refine hs.q .T (ok_eqi .ag .c) fun hs => ?_
  refine hs.o .an fun hs => hs.s fun hs => nn <| wp_ret <| then_r ?_
  refine hs.rt ?_
  exact ret_bool (by rw [← good2_test x hb1, ← stamp_eq0])
 ·try simp only [B] at hb1
  refine wp_skip <| then_n <| sr <| hs.o .fp fun hs => ?_
  refine hs.o .la fun hs => ?_
  refine hs.o (.c1 (c_spec_VerOk ..)) fun hs => hs.m fun hs => hs.q .T .fp fun hs => ?_
  refine hs.q .T (.fx .ag) fun hs => ?_
  refine hs.q .T (.lx .ag) fun hs => ?_
  refine hs.q .T .fp fun hs => ?_
  refine hs.q .T (.lx .ag) fun hs => ?_
  refine hs.q .T (ok_eqi .ag .ag) fun hs => ?_
  refine hs.o .an fun hs => hs.s fun hs => nn <| wp_ret ?_
  refine hs.rt ?_
  exact ret_bool (by unfold ansGood2; rw [hb1]; rfl)
theorem specHead_begin {q : Call} {time : Int} (h : specHead q time = true) : 1 ≤ q.begin_ ∧ q.begin_ ≤ time ∧ q.needs.length ≤ 6 := by
  simp only [specHead, Bool.not_eq_true', Bool.or_eq_false_iff] at h
  have h1 := h.2
  have h2 := h.1.2
  simp at h2
  have := depsOk_len6 h2
  simp [inB] at h1; omega
theorem full_test (q : Call) : (decide (0 < (q.needs.length : Int)) && decide ((q.got.length : Int) < q.keys.length)) = !specFull q := by simp [specFull]
set_option maxHeartbeats 4000000 in
theorem c_spec_CallOk (q : Call) (time : Int) (ht : time ≤ 4611686018427387904) (hgl : q.got.length ≤ 1048576) :
    Fn Tryz.prog 111 [q.av, AV.int time] (AV.bool (callOk q time)) := by
 refine Fn.intro 240 Tryz.func111 rfl Tryz.ntmps111 rfl (by kernel_rfl) (fun W I a hs => ?_)
 have lens : q.keys.length ≤ 9223372036854775807 ∧ q.got.length ≤ 9223372036854775807 ∧ q.needs.length ≤ 9223372036854775807 := by
    obtain ⟨cs, _, hc⟩ := hs.env 0 _ rfl
    obtain ⟨u1, _, h1, _⟩ := hc.get (i := 3) rfl
    obtain ⟨u2, _, h2, _⟩ := hc.get (i := 11) rfl
    obtain ⟨u3, _, h3, _⟩ := hc.get (i := 12) rfl
    exact ⟨rows_le h1, rows_le h2, rows_le h3⟩
 refine sr <| hs.o .bp fun hs => hs.sc fun hs => nn <| wp_seq <| sr <| hs.o .fp fun hs => hs.o .l1 fun hs => ?_
 refine hs.o (.cl (c_spec_l6In ..)) fun hs => ?_
 refine hs.o .nt fun hs => hs.m fun hs => hs.q .F .fp fun hs => ?_
 refine hs.q .F (.lx .ag) fun hs => ?_
 refine hs.q .F (.cl (c_spec_l6In ..)) fun hs => ?_
 refine hs.q .F (.ntx .ag) fun hs => ?_
 refine hs.o .or fun hs => hs.m fun hs => hs.q .F .fp fun hs => ?_
 refine hs.q .F (.lx .ag) fun hs => ?_
 refine hs.q .F (.cl (c_spec_l6In ..)) fun hs => ?_
 refine hs.q .F (.ntx .ag) fun hs => ?_
 refine hs.o .or fun hs => hs.m fun hs => ?_
 refine hs.q .F .la fun hs => ?_
 refine hs.q .F (.cl (c_spec_l31Keys ..)) fun hs => ?_
 refine hs.q .F (.ntx .ag) fun hs => ?_
 refine hs.o .or fun hs => hs.m fun hs => hs.q .F .fp fun hs => ?_
 refine hs.q .F (.lx .ag) fun hs => ?_
 refine hs.q .F (.cl (c_spec_l6In ..)) fun hs => ?_
 refine hs.q .F (.ntx .ag) fun hs => ?_
 refine hs.o .or fun hs => hs.m fun hs => hs.q .F .fp fun hs => ?_
 refine hs.q .F (.lx .ag) fun hs => ?_
 refine hs.q .F (.cl (c_spec_DepsOk ..)) fun hs => ?_
 refine hs.q .F (.ntx .ag) fun hs => ?_
 refine hs.o .or fun hs => hs.m fun hs => hs.q .F .fp fun hs => ?_
 refine hs.q .F (.lx .ag) fun hs => ?_
 refine hs.q .F (.cl (c_spec_DepsOk ..)) fun hs => ?_
 refine hs.q .F (.ntx .ag) fun hs => ?_
 refine hs.o .or fun hs => hs.m fun hs => hs.q .F .fp fun hs => ?_
 refine hs.q .F (.lx .ag) fun hs => ?_
 refine hs.q .F .mv fun hs => ?_
 refine hs.q .F (.cl (c_spec_l6In ..)) fun hs => ?_
 refine hs.q .F (.ntx .ag) fun hs => ?_
 refine hs.o .or fun hs => nn ?_
 refine hs.cd (fun hb1 => ?_) fun hb1 => ?_
 ·replace hb1 : specHead q time = false := by unfold specHead; rw [hb1]; rfl
  refine sr <| hs.sc fun hs => nn <| wp_ret <| then_r ?_
  refine hs.rt ?_
  exact ret_bool (by rw [callOk_spec]; rw [hb1]; rfl)
 ·replace hb1 : specHead q time = true := by unfold specHead; rw [hb1]; rfl
  refine wp_skip <| then_n <| wp_seq <| sr <| hs.o .fp fun hs => hs.o .l1 fun hs => hs.o .eqic fun hs => hs.m fun hs => hs.q .T .fp fun hs => ?_
  refine hs.q .T (.lx .ag) fun hs => ?_
  refine hs.q .T .ln fun hs => ?_
  refine hs.q .T .fp fun hs => ?_
  refine hs.q .T (.lx .ag) fun hs => ?_
  refine hs.q .T .ln fun hs => ?_
  refine hs.q .T (ok_add .ag .ag (fun hg => by have := specHead_begin hb1; omega)) fun hs => ?_
  refine hs.q .T (ok_gtr .ag .c) fun hs => ?_
  refine hs.o .an fun hs => hs.m fun hs => hs.q .F .fp fun hs => ?_
  refine hs.q .F (.lx .ag) fun hs => ?_
  refine hs.q .F (ok_eqi .ag .c) fun hs => ?_
  refine hs.q .F (.mx .ag) fun hs => ?_
  refine hs.q .T2 .fp fun hs => ?_
  refine hs.q .T2 (.lx .ag) fun hs => ?_
  refine hs.q .T2 (ok_gtr .ag .c) fun hs => ?_
  refine hs.q .T2 (.mx .ag) fun hs => ?_
  refine hs.q .F2 .fp fun hs => ?_
  refine hs.q .F2 .la fun hs => ?_
  refine hs.q .F2 (.bd zc115 Parts.nil) fun hs => ?_
  refine hs.q .F2 (ok_neS [_, _] [_, _] eqt115 rfl rfl .ag .ag) fun hs => ?_
  refine hs.q .T2 (ok_or .ag .c .pc) fun hs => ?_
  refine hs.q .F (ok_and .ag .pc .c) fun hs => ?_
  refine hs.o .or fun hs => hs.m fun hs => hs.q .F .fp fun hs => ?_
  refine hs.q .F .la fun hs => ?_
  refine hs.q .F (.cl (c_spec_l11Stamp ..)) fun hs => ?_
  refine hs.q .F (.ntx .ag) fun hs => ?_
  refine hs.o .or fun hs => hs.m fun hs => hs.q .F .fp fun hs => ?_
  refine hs.q .F (.lx .ag) fun hs => ?_
  refine hs.q .F .ln fun hs => ?_
  refine hs.q .F .fp fun hs => ?_
  refine hs.q .F (.lx .ag) fun hs => ?_
  refine hs.q .F .ln fun hs => ?_
  refine hs.q .F (ok_gtr .ag .ag) fun hs => ?_
  refine hs.o .or fun hs => nn ?_
  refine hs.cd (fun hb2 => ?_) fun hb2 => ?_
  ·rw [stamp_neq0] at hb2; replace hb2 : specMid q = false := by unfold specMid; rw [hb2]; rfl
   refine sr <| hs.sc fun hs => nn <| wp_ret <| then_r ?_
   refine hs.rt ?_
   exact ret_bool (by rw [callOk_spec]; rw [hb1, hb2]; rfl)
  ·rw [stamp_neq0] at hb2; replace hb2 : specMid q = true := by unfold specMid; rw [hb2]; rfl
   refine wp_skip <| then_n <| wp_seq <| sr <| hs.sc fun hs => nn <| wp_block ?_
   refine St.lo (σ := Nat) (run 2 4 (run 46 98 [])) ⟨fun k => [(5, AV.int k)], fun k => [], fun k => k ≤ q.got.length ∧ ∀ i, i < k → (ans2At q) i = true⟩ (fun k => q.got.length - k) 0 hs ?ok1 ?round1
   case ok1 => exact ⟨Nat.zero_le _, fun i hi => by omega⟩
   case round1 =>
    rintro k I a w hok hs
    obtain ⟨hk_k, hall⟩ := hok
    refine wp_seq <| sr <| hs.m fun hs => hs.o .fp fun hs => hs.o .l1 fun hs => ?_
    refine hs.o .ln fun hs => ?_
    refine hs.o .lss fun hs => nn ?_
    refine hs.cd (fun hb3 => ?_) fun hb3 => ?_
    ·try simp only [B] at hb3
     refine wp_skip <| then_n <| wp_seq <| wp_block <| wp_seq <| hs.dk <| .o .fp <| .o .l1 <| .o .mv ?_
     refine .o .ix ?_
     refine .o .la ?_
     refine .o (.c1 (c_spec_l31Answer ..)) <| .o .nt <| .o .mv <| .q .F .fp ?_
     refine .q .F (.lx .ag) ?_
     refine .q .F .fp ?_
     refine .q .F (.lx .ag) ?_
     refine .q .F .mv ?_
     refine .q .F .ix ?_
     refine .q .F (.fx .ag) ?_
     refine .q .F (.lx .ag) ?_
     refine .q .F (.cl (c_spec_l31Has ..)) ?_
     refine .q .F (.ntx .ag) ?_
     refine .o .or <| .o .mv <| .q .F .mv ?_
     refine .q .F (ok_gtr .ag .c) ?_
     refine .q .F (.mx .ag) ?_
     refine .q .T2 .fp ?_
     refine .q .T2 (.lx .ag) ?_
     refine .q .T2 .mv ?_
     refine .q .T2 (ok_sub .ag .c (fun hg => by simp at hg; omega)) ?_
     refine .q .T2 .ix ?_
     refine .q .T2 (.fx .ag) ?_
     refine .q .T2 (.lx .ag) ?_
     refine .q .T2 .fp ?_
     refine .q .T2 (.lx .ag) ?_
     refine .q .T2 .mv ?_
     refine .q .T2 .ix ?_
     refine .q .T2 (.fx .ag) ?_
     refine .q .T2 (.lx .ag) ?_
     refine .q .T2 (ok_geq .ag .ag) ?_
     refine .q .F (ok_and .ag .pc .c) ?_
     refine .o .or <| .nil ?_
     intro I a w hs
     refine then_n ?_
     refine hs.cd (fun hb4 => ?_) fun hb4 => ?_
     ·rw [ans2_test] at hb4; replace hb4 := nt hb4
      refine sr <| hs.sc fun hs => nn <| wp_ret <| block_r <| then_r <| then_r <| block_r <| then_r ?_
      refine hs.rt ?_
      exact ret_bool (by rw [callOk_spec]; rw [allN_false (f := ans2At q) hb3 hb4]; simp)
     ·rw [ans2_test] at hb4; replace hb4 := nf hb4
      refine wp_skip <| block_n <| then_n <| St.region <| hs.m fun hs => ?_
      refine hs.o .ad fun hs => ?_
      refine hs.s fun hs => nn ?_
      exact hs.ag (k + 1) (⟨by omega, allN_next hall hb4⟩)
    ·try simp only [B] at hb3
     refine wp_exit <| then_x <| then_x <| block_hit <| then_n <| wp_seq <| sr <| hs.o .fp fun hs => hs.o .l1 fun hs => ?_
     refine hs.o .ln fun hs => ?_
     refine hs.o .gtrc fun hs => hs.m fun hs => hs.q .T .fp fun hs => ?_
     refine hs.q .T (.lx .ag) fun hs => ?_
     refine hs.q .T .ln fun hs => ?_
     refine hs.q .T .fp fun hs => ?_
     refine hs.q .T (.lx .ag) fun hs => ?_
     refine hs.q .T .ln fun hs => ?_
     refine hs.q .T (ok_lss .ag .ag) fun hs => ?_
     refine hs.o .an fun hs => nn ?_
     refine hs.cd (fun hb5 => ?_) fun hb5 => ?_
     ·rw [full_test] at hb5; replace hb5 := nt hb5
      refine sr <| hs.sc fun hs => nn <| wp_ret <| then_r ?_
      refine hs.rt ?_
      exact ret_bool (by rw [callOk_spec]; rw [hb5]; simp)
     ·rw [full_test] at hb5; replace hb5 := nf hb5
      refine wp_skip <| then_n <| wp_seq <| sr <| hs.sc fun hs => nn <| wp_block ?_
      refine St.lo (σ := Nat) (4 :: (run 2 6 (run 34 157 []))) ⟨fun k2 => [(6, AV.int k2)], fun k2 => [], fun k2 => k2 ≤ q.needs.length ∧ ∀ i, i < k2 → (need2At q) i = true⟩ (fun k2 => q.needs.length - k2) 0 hs ?ok2 ?round2
      case ok2 => exact ⟨Nat.zero_le _, fun i hi => by omega⟩
      case round2 =>
       rintro k2 I a w hok hs
       obtain ⟨hk_k2, hall2⟩ := hok
       refine wp_seq <| sr <| hs.m fun hs => hs.o .fp fun hs => hs.o .l1 fun hs => ?_
       refine hs.o .ln fun hs => ?_
       refine hs.o .lss fun hs => nn ?_
       refine hs.cd (fun hb6 => ?_) fun hb6 => ?_
       ·try simp only [B] at hb6
        refine wp_skip <| then_n <| wp_seq <| wp_block <| wp_seq <| hs.dk ?_
        refine .o .la ?_
        refine .o .fp <| .o .l1 <| .o .mv ?_
        refine .o .ix ?_
        refine .o .fp <| .o .l1 <| .o (.c2 (c_spec_l31Got ..)) <| .o .as <| .nil ?_
        intro I a w hs
        refine then_n <| wp_seq <| hs.dk <| .o .mv <| .o .lssc <| .o .mv <| .q .F .fp ?_
        refine .q .F (.lx .ag) ?_
        refine .q .F .mv ?_
        refine .q .F ((by first | exact ok_idxN un116 ty186 .ag .ag (fun hg => by have h0 : 0 ≤ gotI q (elt q.needs k2).key := (by simpa using hg); have := gotI_lt h0; omega) | exact ok_idxM un116 ty186 .ag .ag (fun hg => by have h0 : 0 ≤ gotI q (elt q.needs k2).key := (by simpa using hg); have := gotI_lt h0; omega) | exact ok_idx un116 ty186 .ag .ag (fun hg => by have h0 : 0 ≤ gotI q (elt q.needs k2).key := (by simpa using hg); have := gotI_lt h0; omega))) ?_
        refine .q .F (.fx .ag) ?_
        refine .q .F (.fx .ag) ?_
        refine .q .F .la ?_
        refine .q .F .fp ?_
        refine .q .F (.lx .ag) ?_
        refine .q .F .mv ?_
        refine .q .F .ix ?_
        refine .q .F (.fx .ag) ?_
        refine .q .F .la ?_
        refine .q .F (.cl (c_spec_StampLess ..)) ?_
        refine .q .F (.ntx .ag) ?_
        refine .o .or <| .nil ?_
        intro I a w hs
        refine then_n ?_
        refine hs.cd (fun hb7 => ?_) fun hb7 => ?_
        ·rw [need2_test] at hb7; replace hb7 := nt hb7
         refine sr <| hs.sc fun hs => nn <| wp_ret <| block_r <| then_r <| then_r <| block_r <| then_r ?_
         refine hs.rt ?_
         exact ret_bool (by rw [callOk_spec]; rw [allN_false (f := need2At q) hb6 hb7]; simp)
        ·rw [need2_test] at hb7; replace hb7 := nf hb7
         refine wp_skip <| block_n <| then_n <| St.region <| hs.m fun hs => ?_
         refine hs.o .ad fun hs => ?_
         refine hs.s fun hs => nn ?_
         exact hs.ag (k2 + 1) (⟨by omega, allN_next hall2 hb7⟩)
       ·try simp only [B] at hb6
        refine wp_exit <| then_x <| then_x <| block_hit <| then_n <| wp_seq <| sr <| hs.o .fp fun hs => hs.o .l1 fun hs => hs.o .eqic fun hs => nn ?_
        refine hs.cd (fun hb8 => ?_) fun hb8 => ?_
        ·try simp only [B] at hb8
         refine sr <| hs.o .fp fun hs => ?_
         refine hs.o .la fun hs => ?_
         refine hs.o (.bd zc115 Parts.nil) fun hs => ?_
         refine hs.o (ok_eqS [_, _] [_, _] eqt115 rfl rfl .tt .tt) fun hs => hs.s fun hs => nn <| wp_ret <| then_r ?_
         refine hs.rt ?_
         exact ret_bool (by rw [callOk_spec]; rw [hb1, hb2, allN_true hall (by omega), hb5, allN_true hall2 (by omega), stamp_eq0]; unfold specEnd; rw [if_pos hb8]; rfl)
        ·try simp only [B] at hb8
         refine wp_skip <| then_n <| sr <| hs.o .fp fun hs => hs.o .l1 fun hs => hs.o .nt fun hs => hs.m fun hs => hs.q .T .fp fun hs => ?_
         refine hs.q .T (.lx .ag) fun hs => ?_
         refine hs.q .T .fp fun hs => ?_
         refine hs.q .T (.lx .ag) fun hs => ?_
         refine hs.q .T (ok_add .ag .c (fun hg => by have := specHead_begin hb1; omega)) fun hs => ?_
         refine hs.q .T .mv fun hs => ?_
         refine hs.q .T (.cl (c_spec_l6In ..)) fun hs => ?_
         refine hs.o .an fun hs => hs.m fun hs => hs.q .T .fp fun hs => ?_
         refine hs.q .T (.lx .ag) fun hs => ?_
         refine hs.q .T .ln fun hs => ?_
         refine hs.q .T (ok_eqi .ag .c) fun hs => ?_
         refine hs.o .an fun hs => hs.m fun hs => hs.q .T .fp fun hs => ?_
         refine hs.q .T (.lx .ag) fun hs => ?_
         refine hs.q .T (ok_eqi .ag .c) fun hs => ?_
         refine hs.q .T (.mx .ag) fun hs => ?_
         refine hs.q .T2 .fp fun hs => ?_
         refine hs.q .T2 .la fun hs => ?_
         refine hs.q .T2 (.cl (c_spec_StampOk ..)) fun hs => ?_
         refine hs.q .T (ok_and .ag .pc .c) fun hs => ?_
         refine hs.q .T (.mx .ag) fun hs => ?_
         refine hs.q .F2 .fp fun hs => ?_
         refine hs.q .F2 (.lx .ag) fun hs => ?_
         refine hs.q .F2 (ok_eqi .ag .c) fun hs => ?_
         refine hs.q .F2 (.mx .ag) fun hs => ?_
         refine hs.q .T2 .fp fun hs => ?_
         refine hs.q .T2 (.lx .ag) fun hs => ?_
         refine hs.q .T2 .ln fun hs => ?_
         refine hs.q .T2 .fp fun hs => ?_
         refine hs.q .T2 (.lx .ag) fun hs => ?_
         refine hs.q .T2 .ln fun hs => ?_
         refine hs.q .T2 (ok_eqi .ag .ag) fun hs => ?_
         refine hs.q .F2 (ok_and .ag .pc .c) fun hs => ?_
         refine hs.q .T (ok_or .ag .c .pc) fun hs => ?_
         refine hs.o .an fun hs => hs.s fun hs => nn <| wp_ret ?_
         refine hs.rt ?_
         exact ret_bool (by rw [callOk_spec]; rw [hb1, hb2, allN_true hall (by omega), hb5, allN_true hall2 (by omega)]; unfold specEnd; rw [if_neg hb8]; rfl)
theorem callAt_num {l : List Call} {time : Int} {j : Nat} (h : callAt l time j = true) : (elt l j).num = cntB l (j + 1) (elt l j).client := by
  simp only [callAt, Bool.and_eq_true, beq_iff_eq] at h; exact h.1.2
theorem len20' {n : Nat} (h : (20 : Int) < n) : decide (n ≤ 20) = false := by simp; omega
end Go.Proofs.YtkoebplikhlapaaGreatDoor
