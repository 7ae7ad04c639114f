/- Part 16: rules of the proofs, contracts of functions, plain facts. -/
import Derived.Test.YtkoebplikhlapaaGreatDoorP15
set_option linter.unusedVariables false
set_option linter.unusedSimpArgs false
set_option maxRecDepth 100000
namespace Go.Proofs.YtkoebplikhlapaaGreatDoor
open Go Go.RowKit
theorem nt {b : Bool} (h : (!b) = true) : b = false := by simpa using h
theorem nf {b : Bool} (h : (!b) = false) : b = true := by simpa using h
theorem time_test (l : List Dep) (k : Nat) (t : Int) : decide (t ≤ (elt l k).stamp.time) = !decide ((elt l k).stamp.time < t) := by
  rw [Bool.eq_iff_iff]; simp
def verHead (v : Ver) : Bool := keyB v.key && stampOk v.stamp && inB v.val 0 9999 && clientB v.client && inB v.call 1 99 && depsOk v.deps
theorem verHead_test (v : Ver) : (!keyB v.key || !stampOk v.stamp || !inB v.val 0 9999 || !clientB v.client || !inB v.call 1 99 || !depsOk v.deps) = !verHead v := by simp [verHead]
theorem verOk_eq (v : Ver) : verOk v = (verHead v && timesBelow v.stamp.time v.deps) := rfl
theorem c_spec_VerOk (v : Ver) :
    Fn Tryz.prog 166 [v.av] (AV.bool (verOk v)) := by
 refine Fn.intro 56 Tryz.func166 rfl Tryz.ntmps166 rfl (by kernel_rfl) (fun W I a hs => ?_)
 have hle0 : v.deps.length ≤ 9223372036854775807 := by
    obtain ⟨cs, _, hc⟩ := hs.env 0 _ rfl
    obtain ⟨u, _, hu, _⟩ := hc.get (i := 6) rfl
    exact rows_le hu
 refine sr <| hs.o .bp fun hs => hs.sc fun hs => nn <| wp_seq <| sr <| hs.o .fp fun hs => hs.o .l1 fun hs => hs.o (.c1 (c_spec_l2Key ..)) fun hs => hs.o .nt fun hs => hs.m fun hs => hs.q .F .fp fun hs => ?_
 refine hs.q .F .la fun hs => ?_
 refine hs.q .F (.cl (c_spec_StampOk ..)) fun hs => ?_
 refine hs.q .F (.ntx .ag) fun hs => ?_
 refine hs.o .or fun hs => hs.m fun hs => hs.q .F .fp fun hs => ?_
 refine hs.q .F (.lx .ag) fun hs => ?_
 refine hs.q .F (.cl (c_spec_l6In ..)) fun hs => ?_
 refine hs.q .F (.ntx .ag) fun hs => ?_
 refine hs.o .or fun hs => hs.m fun hs => hs.q .F .fp fun hs => ?_
 refine hs.q .F (.lx .ag) fun hs => ?_
 refine hs.q .F (.cl (c_spec_l6In ..)) fun hs => ?_
 refine hs.q .F (.ntx .ag) fun hs => ?_
 refine hs.o .or fun hs => hs.m fun hs => hs.q .F .fp fun hs => ?_
 refine hs.q .F (.lx .ag) fun hs => ?_
 refine hs.q .F (.cl (c_spec_l6In ..)) fun hs => ?_
 refine hs.q .F (.ntx .ag) fun hs => ?_
 refine hs.o .or fun hs => hs.m fun hs => hs.q .F .fp fun hs => ?_
 refine hs.q .F (.lx .ag) fun hs => ?_
 refine hs.q .F (.cl (c_spec_DepsOk ..)) fun hs => ?_
 refine hs.q .F (.ntx .ag) fun hs => ?_
 refine hs.o .or fun hs => nn ?_
 refine hs.cd (fun hb1 => ?_) fun hb1 => ?_
 ·rw [show inB v.client 0 1 = clientB v.client from rfl, verHead_test v] at hb1; replace hb1 := nt hb1
  refine sr <| hs.sc fun hs => nn <| wp_ret <| then_r ?_
  refine hs.rt ?_
  exact ret_bool (by rw [verOk_eq, hb1]; rfl)
 ·rw [show inB v.client 0 1 = clientB v.client from rfl, verHead_test v] at hb1; replace hb1 := nf hb1
  refine wp_skip <| then_n <| wp_seq <| sr <| hs.sc fun hs => nn <| wp_block ?_
  refine St.lo (σ := Nat) (run 2 2 (run 18 38 [])) ⟨fun k => [(3, AV.int k)], fun k => [], fun k => k ≤ v.deps.length ∧ ∀ i, i < k → (fun i => decide ((elt v.deps i).stamp.time < v.stamp.time)) i = true⟩ (fun k => v.deps.length - k) 0 hs ?ok1 ?round1
  case ok1 => exact ⟨by simp, fun i hi => by omega⟩
  case round1 =>
   rintro k I a w hok hs
   obtain ⟨hk, hall⟩ := hok
   have hle : v.deps.length ≤ 9223372036854775807 := hle0
   refine wp_seq <| sr <| hs.m fun hs => hs.o .fp fun hs => hs.o .l1 fun hs => ?_
   refine hs.o .ln fun hs => ?_
   refine hs.o .lss fun hs => nn ?_
   refine hs.cd (fun hb2 => ?_) fun hb2 => ?_
   ·try simp only [B] at hb2
    refine wp_skip <| then_n <| wp_seq <| wp_block <| wp_seq <| hs.dk <| .o .fp <| .o .l1 <| .o .mv ?_
    refine .o .ix ?_
    refine .o .fp <| .o .fp <| .o .l1 <| .o .fp <| .o .fp <| .o .l1 <| .o .geq <| .nil ?_
    intro I a w hs
    refine then_n ?_
    refine hs.cd (fun hb3 => ?_) fun hb3 => ?_
    ·rw [time_test] at hb3; replace hb3 := nt hb3
     refine sr <| hs.sc fun hs => nn <| wp_ret <| block_r <| then_r <| then_r <| block_r <| then_r ?_
     refine hs.rt ?_
     exact ret_bool (by rw [verOk_eq, hb1]; exact (allN_false (f := (fun i => decide ((elt v.deps i).stamp.time < v.stamp.time))) hb2 hb3).symm)
    ·rw [time_test] at hb3; replace hb3 := nf hb3
     refine wp_skip <| block_n <| then_n <| St.region <| hs.m fun hs => ?_
     refine hs.o .ad fun hs => ?_
     refine hs.s fun hs => nn ?_
     exact hs.ag (k + 1) (⟨by omega, allN_next hall hb3⟩)
   ·try simp only [B] at hb2
    refine wp_exit <| then_x <| then_x <| block_hit <| then_n <| sr <| hs.sc fun hs => nn <| wp_ret ?_
    refine hs.rt ?_
    exact ret_bool (by rw [verOk_eq, hb1]; exact (allN_true hall (by omega)).symm)
theorem c_spec_l3Less (a b : Ver) :
    Fn Tryz.prog 168 [a.av, b.av] (AV.bool (verLess a b)) := by
 refine Fn.intro 24 Tryz.func168 rfl Tryz.ntmps168 rfl (by kernel_rfl) (fun W I a hs => ?_)
 refine sr <| hs.o .bp fun hs => hs.o .bp fun hs => hs.sc fun hs => nn <| sr <| hs.o .fp fun hs => hs.o .l1 fun hs => hs.o .fp fun hs => hs.o .l1 fun hs => hs.o .lss fun hs => hs.m fun hs => hs.q .F .fp fun hs => ?_
 refine hs.q .F (.lx .ag) fun hs => ?_
 refine hs.q .F .fp fun hs => ?_
 refine hs.q .F (.lx .ag) fun hs => ?_
 refine hs.q .F (ok_eqi .ag .ag) fun hs => ?_
 refine hs.q .F (.mx .ag) fun hs => ?_
 refine hs.q .T2 .fp fun hs => ?_
 refine hs.q .T2 .la fun hs => ?_
 refine hs.q .T2 .fp fun hs => ?_
 refine hs.q .T2 .la fun hs => ?_
 refine hs.q .T2 (.cl (c_spec_StampLess ..)) fun hs => ?_
 refine hs.q .F (ok_and .ag .pc .c) fun hs => ?_
 refine hs.o .or fun hs => hs.s fun hs => nn <| wp_ret ?_
 refine hs.rt ?_
 rfl
theorem c_spec_l11Client (n : Int) :
    Fn Tryz.prog 93 [AV.int n] (AV.bool (inB n 10 11)) := by
 refine Fn.intro 5 Tryz.func93 rfl Tryz.ntmps93 rfl (by kernel_rfl) (fun W I a hs => ?_)
 refine sr <| hs.sc fun hs => nn <| sr <| hs.m fun hs => ?_
 refine hs.o (.cl (c_spec_l6In ..)) fun hs => ?_
 refine hs.s fun hs => nn <| wp_ret ?_
 refine hs.rt ?_
 rfl
theorem owes_test (l : List Dep) (k : Nat) : (!keyB (elt l k).key || !stampOk (elt l k).stamp || (decide (0 < (k : Int)) && !depLess (elt l ((k : Int) - 1).toNat) (elt l k))) = !linkB debtOk depLess l k := by
  rw [← link_test]; simp [debtOk]
theorem owes_test2 (l : List Dep) (k : Nat) : (!keyB (elt l k).key || !stampOk (elt l k).stamp || (decide (0 < (k : Int)) && (decide ((elt l k).key < (elt l ((k : Int) - 1).toNat).key) || ((elt l ((k : Int) - 1).toNat).key == (elt l k).key && !stampLess (elt l ((k : Int) - 1).toNat).stamp (elt l k).stamp)))) = !linkB debtOk depLess l k := by
  rw [← owes_test]
  congr 2
  generalize elt l ((k : Int) - 1).toNat = p
  generalize elt l k = q
  simp only [depLess]
  rcases Int.lt_trichotomy p.key q.key with h | h | h
  · have h1 : ¬ q.key < p.key := by omega
    have h2 : (p.key == q.key) = false := by simp; omega
    simp [h, h1, h2]
  · simp [h]
  · have h1 : ¬ p.key < q.key := by omega
    have h2 : (p.key == q.key) = false := by simp; omega
    simp [h, h1, h2]
theorem c_spec_ChainOk (l : List Ver) :
    Fn Tryz.prog 151 [versAV l] (AV.bool (chainOk l)) := by
 refine Fn.intro 36 Tryz.func151 rfl Tryz.ntmps151 rfl (by kernel_rfl) (fun W I a hs => ?_)
 have hle := hs.lenleM (t := 0) rfl
 refine sr <| hs.sc fun hs => nn <| wp_seq <| sr <| hs.m fun hs => ?_
 refine hs.o .ln fun hs => ?_
 refine hs.o .gtrc fun hs => nn ?_
 refine hs.cd (fun hb1 => ?_) fun hb1 => ?_
 ·try simp only [B] at hb1
  refine sr <| hs.sc fun hs => nn <| wp_ret <| then_r ?_
  refine hs.rt ?_
  exact ret_bool (by simp [chainOk]; omega)
 ·try simp only [B] at hb1
  refine wp_skip <| then_n <| wp_seq <| sr <| hs.sc fun hs => nn <| wp_block ?_
  refine St.lo (σ := Nat) (run 2 2 (run 29 7 [])) ⟨fun k => [(3, AV.int k)], fun k => [], fun k => k ≤ l.length ∧ ∀ i, i < k → (linkB verOk verLess l) i = true⟩ (fun k => l.length - k) 0 hs ?ok1 ?round1
  case ok1 => exact ⟨by simp, fun i hi => by omega⟩
  case round1 =>
   rintro k I a w hok hs
   obtain ⟨hk, hall⟩ := hok
   refine wp_seq <| sr <| hs.m fun hs => hs.m fun hs => ?_
   refine hs.o .ln fun hs => ?_
   refine hs.o .lss fun hs => nn ?_
   refine hs.cd (fun hb2 => ?_) fun hb2 => ?_
   ·try simp only [B] at hb2
    refine wp_skip <| then_n <| wp_seq <| wp_block <| wp_seq <| hs.dk <| .o .mv <| .o .mv ?_
    refine .o .ix ?_
    refine .o .la ?_
    refine .o (.c1 (c_spec_VerOk ..)) <| .o .nt <| .o .mv <| .q .F .mv ?_
    refine .q .F (ok_gtr .ag .c) ?_
    refine .q .F (.mx .ag) ?_
    refine .q .T2 .mv <| .q .T2 .mv ?_
    refine .q .T2 (ok_sub .ag .c (fun hg => by simp at hg; omega)) ?_
    refine .q .T2 .ix ?_
    refine .q .T2 .la ?_
    refine .q .T2 .mv <| .q .T2 .mv ?_
    refine .q .T2 .ix ?_
    refine .q .T2 .la ?_
    refine .q .T2 (.cl (c_spec_l3Less ..)) ?_
    refine .q .T2 (.ntx .ag) ?_
    refine .q .F (ok_and .ag .pc .c) ?_
    refine .o .or <| .nil ?_
    intro I a w hs
    refine then_n ?_
    refine hs.cd (fun hb3 => ?_) fun hb3 => ?_
    ·rw [link_test] at hb3; replace hb3 := nt hb3
     refine sr <| hs.sc fun hs => nn <| wp_ret <| block_r <| then_r <| then_r <| block_r <| then_r ?_
     refine hs.rt ?_
     exact ret_bool (by unfold chainOk; rw [allN_false (f := (linkB verOk verLess l)) hb2 hb3]; simp)
    ·rw [link_test] at hb3; replace hb3 := nf hb3
     refine wp_skip <| block_n <| then_n <| St.region <| hs.m fun hs => ?_
     refine hs.o .ad fun hs => ?_
     refine hs.s fun hs => nn ?_
     exact hs.ag (k + 1) (⟨by omega, allN_next hall hb3⟩)
   ·try simp only [B] at hb2
    refine wp_exit <| then_x <| then_x <| block_hit <| then_n <| sr <| hs.sc fun hs => nn <| wp_ret ?_
    refine hs.rt ?_
    exact ret_bool (by unfold chainOk; rw [allN_true hall (by omega), Bool.and_true]; simp; omega)
theorem c_spec_l11Owes (l : List Dep) :
    Fn Tryz.prog 152 [depsAV l] (AV.bool (debtsOk l)) := by
 refine Fn.intro 66 Tryz.func152 rfl Tryz.ntmps152 rfl (by kernel_rfl) (fun W I a hs => ?_)
 have hle := hs.lenleM (t := 0) rfl
 refine sr <| hs.sc fun hs => nn <| wp_seq <| sr <| hs.m fun hs => ?_
 refine hs.o .ln fun hs => ?_
 refine hs.o .gtrc fun hs => nn ?_
 refine hs.cd (fun hb1 => ?_) fun hb1 => ?_
 ·try simp only [B] at hb1
  refine sr <| hs.sc fun hs => nn <| wp_ret <| then_r ?_
  refine hs.rt ?_
  exact ret_bool (by simp [debtsOk]; omega)
 ·try simp only [B] at hb1
  refine wp_skip <| then_n <| wp_seq <| sr <| hs.sc fun hs => nn <| wp_block ?_
  refine St.lo (σ := Nat) (run 3 2 (run 58 8 [])) ⟨fun k => [(3, AV.int k)], fun k => [], fun k => k ≤ l.length ∧ ∀ i, i < k → (linkB debtOk depLess l) i = true⟩ (fun k => l.length - k) 0 hs ?ok1 ?round1
  case ok1 => exact ⟨by simp, fun i hi => by omega⟩
  case round1 =>
   rintro k I a w hok hs
   obtain ⟨hk, hall⟩ := hok
   refine wp_seq <| sr <| hs.m fun hs => hs.m fun hs => ?_
   refine hs.o .ln fun hs => ?_
   refine hs.o .lss fun hs => nn ?_
   refine hs.cd (fun hb2 => ?_) fun hb2 => ?_
   ·try simp only [B] at hb2
    refine wp_skip <| then_n <| wp_seq <| wp_block <| sr <| hs.m fun hs => hs.m fun hs => ?_
    refine hs.o .ix fun hs => ?_
    refine hs.o .la fun hs => ?_
    refine hs.alloc rfl ty165 zc165 fun b4 I a w hs => ?_
    refine hs.sb 0 fun hs => ?_
    obtain ⟨I, hs, hf⟩ := hs.freezeBox 0 rfl
    have hs := hs.upd (t := 4) rfl hf; clear hf
    refine nn <| wp_seq <| hs.dk <| .o .fp <| .o .l1 <| .o (.c1 (c_spec_l2Key ..)) <| .o .nt <| .o .mv <| .q .F .fp ?_
    refine .q .F .la ?_
    refine .q .F (.cl (c_spec_StampOk ..)) ?_
    refine .q .F (.ntx .ag) ?_
    refine .o .or <| .o .mv <| .q .F .mv ?_
    refine .q .F (ok_gtr .ag .c) ?_
    refine .q .F (.mx .ag) ?_
    refine .q .T2 .mv <| .q .T2 .mv ?_
    refine .q .T2 (ok_sub .ag .c (fun hg => by simp at hg; omega)) ?_
    refine .q .T2 .ix ?_
    refine .q .T2 (.fx .ag) ?_
    refine .q .T2 (.lx .ag) ?_
    refine .q .T2 .fp ?_
    refine .q .T2 (.lx .ag) ?_
    refine .q .T2 (ok_gtr .ag .ag) ?_
    refine .q .T2 (.mx .ag) ?_
    refine .q .F2 .mv <| .q .F2 .mv ?_
    refine .q .F2 (ok_sub .ag .c (fun hg => by simp at hg; omega)) ?_
    refine .q .F2 .ix ?_
    refine .q .F2 (.fx .ag) ?_
    refine .q .F2 (.lx .ag) ?_
    refine .q .F2 .fp ?_
    refine .q .F2 (.lx .ag) ?_
    refine .q .F2 (ok_eqi .ag .ag) ?_
    refine .q .F2 (.mx .ag) ?_
    refine .q .T2 .mv <| .q .T2 .mv ?_
    refine .q .T2 (ok_sub .ag .c (fun hg => by simp at hg; omega)) ?_
    refine .q .T2 .ix ?_
    refine .q .T2 (.fx .ag) ?_
    refine .q .T2 .la ?_
    refine .q .T2 .fp ?_
    refine .q .T2 .la ?_
    refine .q .T2 (.cl (c_spec_StampLess ..)) ?_
    refine .q .T2 (.ntx .ag) ?_
    refine .q .F2 (ok_and .ag .pc .c) ?_
    refine .q .T2 (ok_or .ag .c .pc) ?_
    refine .q .F (ok_and .ag .pc .c) ?_
    refine .o .or <| .nil ?_
    intro I a w hs
    refine then_n ?_
    refine hs.cd (fun hb3 => ?_) fun hb3 => ?_
    ·rw [owes_test2] at hb3; replace hb3 := nt hb3
     refine sr <| hs.sc fun hs => nn <| wp_ret <| block_r <| then_r <| then_r <| block_r <| then_r ?_
     refine hs.rt ?_
     exact ret_bool (by unfold debtsOk; rw [allN_false (f := (linkB debtOk depLess l)) hb2 hb3]; simp)
    ·rw [owes_test2] at hb3; replace hb3 := nf hb3
     refine wp_skip <| block_n <| then_n <| St.region <| hs.m fun hs => ?_
     refine hs.o .ad fun hs => ?_
     refine hs.s fun hs => nn ?_
     have hs := hs.drop 0
     exact hs.ag (k + 1) (⟨by omega, allN_next hall hb3⟩)
   ·try simp only [B] at hb2
    refine wp_exit <| then_x <| then_x <| block_hit <| then_n <| sr <| hs.sc fun hs => nn <| wp_ret ?_
    refine hs.rt ?_
    exact ret_bool (by unfold debtsOk; rw [allN_true hall (by omega), Bool.and_true]; simp; omega)
theorem c_spec_WordOk (m : Word) :
    Fn Tryz.prog 118 [m.av] (AV.bool (wordOk m)) := by
 refine Fn.intro 76 Tryz.func118 rfl Tryz.ntmps118 rfl (by kernel_rfl) (fun W I a hs => ?_)
 refine sr <| hs.o .bp fun hs => hs.sc fun hs => nn <| sr <| hs.o .fp fun hs => hs.o .l1 fun hs => ?_
 refine hs.o (.cl (c_spec_l6In ..)) fun hs => ?_
 refine hs.m fun hs => hs.q .T .fp fun hs => ?_
 refine hs.q .T (.lx .ag) fun hs => ?_
 refine hs.q .T (.cl (c_spec_l1Site ..)) fun hs => ?_
 refine hs.q .T (.mx .ag) fun hs => ?_
 refine hs.q .F2 .fp fun hs => ?_
 refine hs.q .F2 (.lx .ag) fun hs => ?_
 refine hs.q .F2 (.cl (c_spec_l11Client ..)) fun hs => ?_
 refine hs.q .T (ok_or .ag .c .pc) fun hs => ?_
 refine hs.o .an fun hs => hs.m fun hs => hs.q .T .fp fun hs => ?_
 refine hs.q .T (.lx .ag) fun hs => ?_
 refine hs.q .T (.cl (c_spec_l1Site ..)) fun hs => ?_
 refine hs.q .T (.mx .ag) fun hs => ?_
 refine hs.q .F2 .fp fun hs => ?_
 refine hs.q .F2 (.lx .ag) fun hs => ?_
 refine hs.q .F2 (.cl (c_spec_l11Client ..)) fun hs => ?_
 refine hs.q .T (ok_or .ag .c .pc) fun hs => ?_
 refine hs.o .an fun hs => hs.m fun hs => hs.q .T .fp fun hs => ?_
 refine hs.q .T (.lx .ag) fun hs => ?_
 refine hs.q .T (.cl (c_spec_l6In ..)) fun hs => ?_
 refine hs.o .an fun hs => hs.m fun hs => hs.q .T .fp fun hs => ?_
 refine hs.q .T (.lx .ag) fun hs => ?_
 refine hs.q .T (.cl (c_spec_l2Key ..)) fun hs => ?_
 refine hs.o .an fun hs => hs.m fun hs => hs.q .T .fp fun hs => ?_
 refine hs.q .T .la fun hs => ?_
 refine hs.q .T (.cl (c_spec_l11Stamp ..)) fun hs => ?_
 refine hs.o .an fun hs => hs.m fun hs => hs.q .T .fp fun hs => ?_
 refine hs.q .T (.lx .ag) fun hs => ?_
 refine hs.q .T (.cl (c_spec_l6In ..)) fun hs => ?_
 refine hs.o .an fun hs => hs.m fun hs => hs.q .T .fp fun hs => ?_
 refine hs.q .T (.lx .ag) fun hs => ?_
 refine hs.q .T (.cl (c_spec_DepsOk ..)) fun hs => ?_
 refine hs.o .an fun hs => hs.m fun hs => hs.q .T .fp fun hs => ?_
 refine hs.q .T (.lx .ag) fun hs => ?_
 refine hs.q .T (.cl (c_spec_l6In ..)) fun hs => ?_
 refine hs.o .an fun hs => hs.m fun hs => hs.q .T .fp fun hs => ?_
 refine hs.q .T (.lx .ag) fun hs => ?_
 refine hs.q .T (.cl (c_spec_l6In ..)) fun hs => ?_
 refine hs.o .an fun hs => hs.m fun hs => hs.q .T .fp fun hs => ?_
 refine hs.q .T (.lx .ag) fun hs => ?_
 refine hs.q .T (.cl (c_spec_ChainOk ..)) fun hs => ?_
 refine hs.o .an fun hs => hs.m fun hs => hs.q .T .fp fun hs => ?_
 refine hs.q .T (.lx .ag) fun hs => ?_
 refine hs.q .T (.cl (c_spec_ChainOk ..)) fun hs => ?_
 refine hs.o .an fun hs => hs.m fun hs => hs.q .T .fp fun hs => ?_
 refine hs.q .T (.lx .ag) fun hs => ?_
 refine hs.q .T (.cl (c_spec_l11Owes ..)) fun hs => ?_
 refine hs.o .an fun hs => hs.s fun hs => nn <| wp_ret ?_
 refine hs.rt ?_
 rfl
theorem c_spec_VerSlot (n : Int) :
    Fn Tryz.prog 131 [AV.int n] (AV.int (verSlot n)) := by
 refine Fn.intro 9 Tryz.func131 rfl Tryz.ntmps131 rfl (by kernel_rfl) (fun W I a hs => ?_)
 refine sr <| hs.sc fun hs => nn <| wp_seq <| sr <| hs.m fun hs => hs.o (.c1 (c_spec_l2Key ..)) fun hs => hs.o .nt fun hs => nn ?_
 refine hs.cd (fun hb1 => ?_) fun hb1 => ?_
 ·try simp only [B] at hb1
  refine sr <| hs.sc fun hs => nn <| wp_ret <| then_r ?_
  refine hs.rt ?_
  exact ret_int (by simp [verSlot, hb1])
 ·try simp only [B] at hb1
  refine wp_skip <| then_n <| sr <| hs.m fun hs => ?_
  refine hs.o (ok_mul .tt .c (fun _ => by simp [keyB, inB] at hb1; omega)) fun hs => ?_
  refine hs.o (ok_quo .tt .c (fun _ => by simp [keyB, inB] at hb1; omega)) fun hs => ?_
  refine hs.s fun hs => nn <| wp_ret ?_
  refine hs.rt ?_
  exact ret_int (by simp [verSlot, hb1])
theorem elt_mem {α : Type} [Inhabited α] {l : List α} {k : Nat} (h : k < l.length) : elt l k ∈ l := by
  unfold elt; rw [List.getD_eq_getElem?_getD, List.getElem?_eq_getElem h]; exact List.getElem_mem _
def idxI {α : Type} (p : α → Bool) (l : List α) : Int := match l.findIdx? p with
  | some k => k
  | none => -1
theorem idx_hit {α : Type} [Inhabited α] {p : α → Bool} {l : List α} {k : Nat} (hk : k < l.length) (h : ∀ i, i < k → p (elt l i) = false) (hp : p (elt l k) = true) : idxI p l = k := by
  have : l.findIdx? p = some k := by
    rw [List.findIdx?_eq_some_iff_getElem]
    refine ⟨hk, by simpa [elt, hk] using hp, fun j hj => ?_⟩
    have := h j hj
    have hjl : j < l.length := by omega
    simpa [elt, hjl] using this
  unfold idxI; rw [this]
theorem idx_none {α : Type} [Inhabited α] {p : α → Bool} {l : List α} {k : Nat} (hk : l.length ≤ k) (h : ∀ i, i < k → p (elt l i) = false) : idxI p l = -1 := by
  have : l.findIdx? p = none := by
    rw [List.findIdx?_eq_none_iff]
    intro x hx
    obtain ⟨i, hi, rfl⟩ := List.getElem_of_mem hx
    have := h i (by omega)
    simpa [elt, hi] using this
  unfold idxI; rw [this]
theorem idxI_lt {α : Type} (p : α → Bool) (l : List α) : idxI p l < (l.length : Int) ∨ idxI p l = -1 := by
  unfold idxI
  split
  · rename_i k h
    have := (List.findIdx?_eq_some_iff_getElem.1 h).1
    left; omega
  · right; rfl
def hasB {α : Type} (p : α → Bool) (l : List α) : Bool := decide (0 ≤ idxI p l)
theorem idxI_any {α : Type} [Inhabited α] {p : α → Bool} {l : List α} (h : 0 ≤ idxI p l) : ∃ k, k < l.length ∧ p (elt l k) = true := by
  unfold idxI at h
  split at h
  · rename_i k hk
    obtain ⟨h1, h2, _⟩ := List.findIdx?_eq_some_iff_getElem.1 hk
    exact ⟨k, h1, by simpa [elt, h1] using h2⟩
  · omega
theorem idxI_all {α : Type} [Inhabited α] {p : α → Bool} {l : List α} (h : idxI p l < 0) : ∀ k, k < l.length → p (elt l k) = false := by
  unfold idxI at h
  split at h
  · omega
  · rename_i hn
    rw [List.findIdx?_eq_none_iff] at hn
    intro k hk
    have := hn (elt l k) (by unfold elt; rw [List.getD_eq_getElem?_getD, List.getElem?_eq_getElem hk]; exact List.getElem_mem _)
    exact this
def depIs (d : Dep) (v : Ver) : Bool := decide (v.dep = d)
def placeOf (l : List Ver) (d : Dep) : Int := idxI (depIs d) l
def missing (l : List Ver) (d : Dep) : Bool := decide (placeOf l d < 0)
def hasAll (l : List Ver) (ds : List Dep) : Bool := !hasB (missing l) ds
def standOf (s : Server) (key : Int) : Int := (elt s.slots (verSlot key).toNat).stand
def slotGood (x : Slot) : Bool := inB x.epoch 0 9999 && inB x.stand 0 2 && !((x.stand != 0) && (x.epoch == 0))
def serverHead (s : Server) : Bool := siteB s.site && decide (s.slots.length = 3) && chainOk s.vers && chainOk s.waits && debtsOk s.owes && debtsOk s.knows && !(!s.up && decide (0 < s.knows.length))
def slotAt (s : Server) (i : Nat) : Bool := slotGood (elt s.slots i)
def verAt (s : Server) (i : Nat) : Bool := standOf s (elt s.vers i).key != 0
def waitGood (s : Server) (v : Ver) : Bool := (standOf s v.key != 0) && (siteSide v.stamp.site != siteSide s.site) && decide (placeOf s.vers v.dep < 0)
def waitAt (s : Server) (i : Nat) : Bool := waitGood s (elt s.waits i)
def serverOk (s : Server) : Bool := serverHead s && allN s.slots.length (slotAt s) && allN s.vers.length (verAt s) && allN s.waits.length (waitAt s) && hasAll s.vers s.owes
theorem srv_test (s : Server) : (!siteB s.site || ((s.slots.length : Int) != 3) || !chainOk s.vers || !chainOk s.waits || !debtsOk s.owes || !debtsOk s.knows || (!s.up && decide (0 < (s.knows.length : Int)))) = !serverHead s := by
  have e : ((s.slots.length : Int) != 3) = !decide (s.slots.length = 3) := by rw [Bool.eq_iff_iff]; simp; omega
  have e2 : decide (0 < (s.knows.length : Int)) = decide (0 < s.knows.length) := by rw [Bool.eq_iff_iff]; simp
  rw [e, e2]; simp [serverHead]
theorem slot_test (x : Slot) : (!inB x.epoch 0 9999 || !inB x.stand 0 2 || ((x.stand != 0) && (x.epoch == 0))) = !slotGood x := by simp [slotGood]
theorem chain_at {l : List Ver} (h : chainOk l = true) {k : Nat} (hk : k < l.length) : verOk (elt l k) = true := by
  unfold chainOk at h
  rw [Bool.and_eq_true, allN_iff] at h
  have := h.2 k hk
  unfold linkB at this
  rw [Bool.and_eq_true] at this
  exact this.1
theorem verOk_key {v : Ver} (h : verOk v = true) : keyB v.key = true := by
  simp only [verOk, Bool.and_eq_true] at h; exact h.1.1.1.1.1.1
theorem head_parts {s : Server} (h : serverHead s = true) : s.slots.length = 3 ∧ chainOk s.vers = true ∧ chainOk s.waits = true ∧ debtsOk s.owes = true ∧ debtsOk s.knows = true ∧ siteB s.site = true := by
  simp only [serverHead, Bool.and_eq_true, decide_eq_true_eq] at h
  exact ⟨h.1.1.1.1.1.2, h.1.1.1.1.2, h.1.1.1.2, h.1.1.2, h.1.2, h.1.1.1.1.1.1⟩
theorem verSlot_range {n : Int} (h : keyB n = true) : 0 ≤ verSlot n ∧ verSlot n < 3 := by
  unfold verSlot; simp only [h, if_true]; simp [keyB, inB] at h; omega
theorem c_spec_l21Here (s : Server) (key : Int) (hk : keyB key = true) (hl : s.slots.length = 3) :
    Fn Tryz.prog 169 [s.av, AV.int key] (AV.bool (standOf s key != 0)) := by
 refine Fn.intro 13 Tryz.func169 rfl Tryz.ntmps169 rfl (by kernel_rfl) (fun W I a hs => ?_)
 have hr := verSlot_range hk
 refine sr <| hs.o .bp fun hs => hs.sc fun hs => nn <| wp_seq <| hs.dk <| .o .fp <| .o .l1 <| .o .mv <| .o (.c1 (c_spec_VerSlot ..)) ?_
 refine .o .ix ?_
 refine .o .fp <| .o .l1 <| .o .neic <| .o .as <| .nil ?_
 intro I a w hs
 refine then_n <| wp_ret ?_
 refine hs.rt ?_
 rfl
end Go.Proofs.YtkoebplikhlapaaGreatDoor
