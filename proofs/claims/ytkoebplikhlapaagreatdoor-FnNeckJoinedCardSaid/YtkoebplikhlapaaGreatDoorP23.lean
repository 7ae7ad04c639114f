/- Part 23: rules of the proofs, contracts of functions, plain facts. -/
import Derived.Test.YtkoebplikhlapaaGreatDoorP22
set_option linter.unusedVariables false
set_option linter.unusedSimpArgs false
set_option maxRecDepth 100000
namespace Go.Proofs.YtkoebplikhlapaaGreatDoor
open Go Go.RowKit
theorem filt_yes {α : Type} [Inhabited α] {p : α → Bool} {l : List α} {k : Nat} (h : k < l.length) (hp : p (elt l k) = true) : (l.take (k + 1)).filter p = (l.take k).filter p ++ [elt l k] := by
  rw [take_elt h, List.filter_append, List.filter_cons, hp]; rfl
theorem filt_no {α : Type} [Inhabited α] {p : α → Bool} {l : List α} {k : Nat} (h : k < l.length) (hp : p (elt l k) = false) : (l.take (k + 1)).filter p = (l.take k).filter p := by
  rw [take_elt h, List.filter_append, List.filter_cons, hp]; simp
theorem filt_len {α : Type} (p : α → Bool) (l : List α) (k : Nat) : ((l.take k).filter p).length ≤ l.length := by
  have h1 := List.length_filter_le p (l.take k)
  have h2 : (l.take k).length ≤ l.length := by simp; omega
  omega
theorem put_test {l : List Ver} (v : Ver) (hc : chainOk l = true) : (!verOk v || (chainAt l ⟨v.key, v.stamp⟩).isSome || decide (80 ≤ (l.length : Int))) = !canPut l v := by
  rw [chainAt_some hc]
  have e : decide (80 ≤ (l.length : Int)) = !decide (l.length < 80) := by rw [Bool.eq_iff_iff]; simp; omega
  have e2 : decide (0 ≤ placeOf l ⟨v.key, v.stamp⟩) = !decide (placeOf l v.dep < 0) := by
    show decide (0 ≤ placeOf l v.dep) = _
    rw [Bool.eq_iff_iff]; simp
  unfold canPut
  rw [e, e2]; simp
theorem canPut_parts {l : List Ver} {v : Ver} (h : canPut l v = true) : verOk v = true ∧ placeOf l v.dep < 0 ∧ l.length < 80 := by
  unfold canPut at h
  simp only [Bool.and_eq_true, decide_eq_true_eq] at h
  exact ⟨h.1.1, h.1.2, h.2⟩
theorem dep_eq (e d : Dep) : ([e.key, e.stamp.time, e.stamp.site] == [d.key, d.stamp.time, d.stamp.site]) = decide (e = d) := by
  obtain ⟨k, ⟨t, s⟩⟩ := d
  obtain ⟨k', ⟨t', s'⟩⟩ := e
  rw [Bool.eq_iff_iff]; simp
theorem findV_hit {α : Type} [Inhabited α] {p : α → Bool} {l : List α} {k : Nat} (hk : k < l.length) (h : ∀ i, i < k → p (elt l i) = false) (hp : p (elt l k) = true) : l.find? p = some (elt l k) := by
  rw [List.find?_eq_some_iff_getElem]
  refine ⟨hp, k, hk, by simp [elt, hk], fun j hj => ?_⟩
  have hjl : j < l.length := by omega
  have := h j hj
  simpa [elt, hjl] using this
theorem findV_none {α : Type} [Inhabited α] {p : α → Bool} {l : List α} {k : Nat} (hk : l.length ≤ k) (h : ∀ i, i < k → p (elt l i) = false) : l.find? p = none := by
  rw [List.find?_eq_none]
  intro x hx
  obtain ⟨i, hi, rfl⟩ := mem_elt hx
  rw [h i (by omega)]; simp
theorem owns_range {a : Bool} {key : Int} (h : (a && keyB key) = true) : 0 ≤ verSlot key ∧ verSlot key < 3 := verSlot_range (by rw [Bool.and_eq_true] at h; exact h.2)
theorem serverOk_parts {s : Server} (h : serverOk s = true) : s.slots.length = 3 ∧ chainOk s.vers = true ∧ chainOk s.waits = true ∧ debtsOk s.owes = true ∧ debtsOk s.knows = true ∧ siteB s.site = true := by
  simp only [serverOk, Bool.and_eq_true] at h
  exact head_parts h.1.1.1.1
set_option maxHeartbeats 4000000 in
theorem c_spec_StampNext (n : Int) (l : List Stamp) (hn : siteB n = true) (hl : ∀ s ∈ l, stampOk s = true) :
    Fn Tryz.prog 159 [AV.int n, AV.rows 2 (l.map Stamp.cells)] (AV.tup [(nextS n l).av, AV.bool (nextOk l)]) := by
 refine Fn.intro 44 Tryz.func159 rfl Tryz.ntmps159 rfl (by kernel_rfl) (fun W I a hs => ?_)
 have hle := hs.lenleM (t := 1) rfl
 refine sr <| hs.alloc rfl ty115 zc115 fun b4 I a w hs => hs.sc fun hs => nn <| wp_seq <| sr <| hs.m fun hs => hs.o (.c1 (c_spec_l1Site ..)) fun hs => hs.o .nt fun hs => nn ?_
 refine hs.cd (fun hb1 => ?_) fun hb1 => ?_
 ·exfalso; rw [hn] at hb1; cases hb1
  skip
 ·skip
  refine wp_skip <| then_n <| sr <| hs.sc fun hs => nn <| wp_seq <| sr <| hs.sc fun hs => nn <| wp_block ?_
  refine St.lo (σ := Nat) (run 3 5 (run 25 12 [])) ⟨fun k => [(7, AV.int k), (6, AV.int (maxT (l.take k)))], fun k => [Own.box b4 115 [AV.val (.int .i64 0), AV.val (.int .i64 0)]], fun k => k ≤ l.length⟩ (fun k => l.length - k) 0 hs ?ok1 ?round1
  case ok1 => exact Nat.zero_le _
  case round1 =>
   rintro k I a w hok hs
   have hk : k ≤ l.length := hok
   refine wp_seq <| sr <| hs.m fun hs => hs.m fun hs => ?_
   refine hs.o .ln fun hs => ?_
   refine hs.o .lss fun hs => nn ?_
   refine hs.cd (fun hb2 => ?_) fun hb2 => ?_
   ·try simp only [B] at hb2
    refine wp_skip <| then_n <| wp_seq <| wp_block <| wp_seq <| sr <| hs.m fun hs => hs.m fun hs => ?_
    refine hs.o .ix fun hs => ?_
    refine hs.o .la fun hs => ?_
    refine hs.o (.c1 (c_spec_StampOk ..)) fun hs => hs.o .nt fun hs => nn ?_
    refine hs.cd (fun hb3 => ?_) fun hb3 => ?_
    ·exfalso; simp only [B] at hb3; rw [hl _ (elt_mem hb2)] at hb3; cases hb3
     skip
    ·skip
     refine wp_skip <| then_n <| sr <| hs.m fun hs => hs.m fun hs => ?_
     refine hs.o .ix fun hs => ?_
     refine hs.o .fp fun hs => hs.o .l1 fun hs => hs.m fun hs => hs.o .gtr fun hs => nn ?_
     refine hs.cd (fun hb4 => ?_) fun hb4 => ?_
     ·try simp only [B] at hb4
      refine St.region <| hs.m fun hs => hs.m fun hs => ?_
      refine hs.o .ix fun hs => ?_
      refine hs.o .fp fun hs => hs.o .l1 fun hs => hs.s fun hs => wpList_nil <| block_n <| then_n <| St.region <| hs.m fun hs => ?_
      refine hs.o .ad fun hs => ?_
      refine hs.s fun hs => nn ?_
      refine hs.again (k + 1) ?mu1 ?ok1001 (by rfl) ?env1001 (by repeat (first | exact Env.le_rfl | refine Env.le_push rfl ?_))
      case mu1 => omega
      case ok1001 => exact hb2
      case env1001 => exact (Env.le_consE rfl (by rfl) (Env.le_consE rfl (by first | exact congrArg AV.int (by rw [maxT_take hb2, if_pos hb4]) | exact congrArg AV.int (by rw [maxT_take hb2, if_neg (by omega)])) Env.le_nil))
     ·try simp only [B] at hb4
      refine wp_skip <| block_n <| then_n <| St.region <| hs.m fun hs => ?_
      refine hs.o .ad fun hs => ?_
      refine hs.s fun hs => nn ?_
      refine hs.again (k + 1) ?mu2 ?ok1002 (by rfl) ?env1002 (by repeat (first | exact Env.le_rfl | refine Env.le_push rfl ?_))
      case mu2 => omega
      case ok1002 => exact hb2
      case env1002 => exact (Env.le_consE rfl (by rfl) (Env.le_consE rfl (by first | exact congrArg AV.int (by rw [maxT_take hb2, if_pos hb4]) | exact congrArg AV.int (by rw [maxT_take hb2, if_neg (by omega)])) Env.le_nil))
   ·try simp only [B] at hb2
    refine wp_exit <| then_x <| then_x <| block_hit <| then_n <| wp_seq <| sr <| hs.m fun hs => hs.o .geqc fun hs => nn ?_
    refine hs.cd (fun hb5 => ?_) fun hb5 => ?_
    ·try simp only [B] at hb5
     refine sr ?_
     refine hs.o (.bd zc115 Parts.nil) fun hs => ?_
     refine hs.sb 0 fun hs => ?_
     refine hs.sc fun hs => nn <| wp_ret <| then_r ?_
     rw [List.take_of_length_le (by omega)] at hb5
     refine hs.ret rfl (.cons (.s 0 ty115 rfl rfl (by first | rfl | assumption)) (.cons (.t rfl) ResL.nil)) ?_
     have e : nextOk l = false := by unfold nextOk; simp; omega
     exact (by unfold nextS; rw [e]; rfl)
    ·try simp only [B] at hb5
     refine wp_skip <| then_n <| sr <| hs.m fun hs => ?_
     refine hs.o (ok_add .tt .c (fun _ => by have := maxT_le hl k; omega)) fun hs => ?_
     refine hs.m fun hs => ?_
     refine hs.o (.bd zc115 (.k (.k Parts.nil))) fun hs => ?_
     refine hs.sb 0 fun hs => ?_
     refine hs.sc fun hs => nn <| wp_ret ?_
     rw [List.take_of_length_le (by omega)] at hb5
     refine hs.ret rfl (.cons (.s 0 ty115 rfl rfl (by first | rfl | assumption)) (.cons (.t rfl) ResL.nil)) ?_
     have e : nextOk l = true := by unfold nextOk; simp; omega
     exact (by unfold nextS; rw [e, List.take_of_length_le (by omega)]; rfl)
set_option maxHeartbeats 4000000 in
theorem c_spec_ChainTop (l : List Ver) (key : Int) (hc : chainOk l = true) :
    Fn Tryz.prog 158 [versAV l, AV.int key] (AV.tup [((topV l key).getD default).av, AV.bool (topV l key).isSome]) := by
 refine Fn.intro 31 Tryz.func158 rfl Tryz.ntmps158 rfl (by kernel_rfl) (fun W I a hs => ?_)
 have hle := hs.lenleM (t := 0) rfl
 have hl80 := chain_len hc
 refine sr <| hs.alloc rfl ty173 zc173 fun b4 I a w hs => hs.sc fun hs => nn <| wp_seq <| sr <| hs.m fun hs => ?_
 refine hs.o (.cl (c_spec_ChainOk ..)) fun hs => ?_
 refine hs.o .nt fun hs => nn ?_
 refine hs.cd (fun hb1 => ?_) fun hb1 => ?_
 ·exfalso; rw [hc] at hb1; cases hb1
  skip
 ·skip
  refine wp_skip <| then_n <| wp_seq <| sr <| hs.m fun hs => ?_
  refine hs.o .ln fun hs => ?_
  refine hs.o .su fun hs => ?_
  refine hs.s fun hs => nn <| wp_block ?_
  refine St.lo (σ := Nat) (run 2 5 (run 16 14 [])) ⟨fun j => [(6, AV.int ((j : Int) - 1))], fun j => [Own.box b4 173 [AV.val (.int .i64 0), AV.val (.int .i64 0), AV.val (.int .i64 0), AV.val (.int .i64 0), AV.val (.int .i64 0), AV.val (.int .i64 0), AV.rows 3 []]], fun j => j ≤ l.length ∧ ∀ i, j ≤ i → i < l.length → keyIs key (elt l i) = false⟩ (fun j => j) l.length hs ?ok1 ?round1
  case ok1 => exact ⟨Nat.le_refl _, fun i h1 h2 => by omega⟩
  case round1 =>
   rintro j I a w hok hs
   obtain ⟨hk, hall⟩ := hok
   refine wp_seq <| sr <| hs.m fun hs => hs.o .geqc fun hs => nn ?_
   refine hs.cd (fun hb2 => ?_) fun hb2 => ?_
   ·try simp only [B] at hb2
    refine wp_skip <| then_n <| wp_seq <| wp_block <| sr <| hs.m fun hs => hs.m fun hs => ?_
    refine hs.o .ix fun hs => ?_
    refine hs.o .fp fun hs => hs.o .l1 fun hs => hs.m fun hs => hs.o .eqi fun hs => nn ?_
    refine hs.cd (fun hb3 => ?_) fun hb3 => ?_
    ·skip
     refine sr <| hs.m fun hs => hs.m fun hs => ?_
     refine hs.o .ix fun hs => ?_
     refine hs.o .la fun hs => ?_
     refine hs.o (ok_call (c_spec_l2Copy _ (by have := chain_deps hc _ (elt_mem (k := ((j : Int) - 1).toNat) (by omega)); omega)) (args_cons (.t rfl) args_nil)) fun hs => ?_
     refine hs.sb 0 fun hs => ?_
     refine hs.sc fun hs => nn <| wp_ret <| block_r <| then_r <| then_r <| block_r <| then_r ?_
     refine hs.ret rfl (.cons (.s 0 ty173 rfl rfl (by first | rfl | assumption)) (.cons (.t rfl) ResL.nil)) ?_
     exact (by rw [topV_hit (k := ((j : Int) - 1).toNat) (by omega) (fun i h1 h2 => hall i (by omega) h2) hb3]; rfl)
    ·skip
     refine wp_skip <| block_n <| then_n <| St.region <| hs.m fun hs => ?_
     refine hs.o .su fun hs => ?_
     refine hs.s fun hs => nn ?_
     refine hs.again (j - 1) ?mu1 ?ok1001 (by rfl) ?env1001 (by repeat (first | exact Env.le_rfl | refine Env.le_push rfl ?_))
     case mu1 => omega
     case ok1001 => exact ⟨by omega, fun i h1 h2 => by by_cases h : i = ((j : Int) - 1).toNat; (subst h; exact hb3); exact hall i (by omega) h2⟩
     case env1001 => exact (Env.le_consE rfl (by first | rfl | exact congrArg AV.int (by omega)) Env.le_nil)
   ·try simp only [B] at hb2
    refine wp_exit <| then_x <| then_x <| block_hit <| then_n <| sr ?_
    refine hs.o (.bd zc173 Parts.nil) fun hs => ?_
    refine hs.sb 0 fun hs => ?_
    refine hs.sc fun hs => nn <| wp_ret ?_
    refine hs.ret rfl (.cons (.s 0 ty173 rfl rfl (by first | rfl | assumption)) (.cons (.t rfl) ResL.nil)) ?_
    exact (by rw [topV_none fun i h => hall i (by omega) h]; rfl)
set_option maxHeartbeats 4000000 in
theorem c_spec_ChainPut (l : List Ver) (v : Ver) (hc : chainOk l = true) :
    Fn Tryz.prog 160 [versAV l, v.av] (AV.tup [versAV (if canPut l v then insV l v else l), AV.bool (canPut l v)]) := by
 refine Fn.intro 37 Tryz.func160 rfl Tryz.ntmps160 rfl (by kernel_rfl) (fun W I a hs => ?_)
 have hle := hs.lenleM (t := 0) rfl
 have hl80 := chain_len hc
 have hcd := chain_deps hc
 refine sr <| hs.o .bp fun hs => hs.sc fun hs => hs.sc fun hs => nn <| wp_seq <| sr <| hs.m fun hs => ?_
 refine hs.o (.cl (c_spec_ChainOk ..)) fun hs => ?_
 refine hs.o .nt fun hs => nn ?_
 refine hs.cd (fun hb1 => ?_) fun hb1 => ?_
 ·exfalso; rw [hc] at hb1; cases hb1
  skip
 ·skip
  refine wp_skip <| then_n <| sr <| hs.m fun hs => hs.o .fp fun hs => hs.o .l1 fun hs => hs.o .fp fun hs => ?_
  refine hs.o .la fun hs => ?_
  refine hs.o (.cl (c_spec_ChainAt ..)) fun hs => ?_
  refine hs.m fun hs => ?_
  refine hs.o .e fun hs => hs.o .e fun hs => hs.alloc rfl ty173 zc173 fun b6 I a w hs => ?_
  refine hs.sb 0 fun hs => ?_
  obtain ⟨I, hs, hf⟩ := hs.freezeBox 0 rfl
  have hs := hs.upd (t := 6) rfl hf; clear hf
  refine hs.s fun hs => nn <| wp_seq <| sr ?_
  refine hs.o .la fun hs => ?_
  refine hs.o (.c1 (c_spec_VerOk ..)) fun hs => hs.o .nt fun hs => hs.m fun hs => hs.q .F .mv fun hs => hs.o .or fun hs => hs.m fun hs => hs.q .F .mv fun hs => ?_
  refine hs.q .F .ln fun hs => ?_
  refine hs.q .F (ok_geq .ag .c) fun hs => ?_
  refine hs.o .or fun hs => nn ?_
  refine hs.cd (fun hb2 => ?_) fun hb2 => ?_
  ·rw [put_test v hc] at hb2; replace hb2 := nt hb2
   refine sr <| hs.m fun hs => ?_
   refine hs.o (ok_call (c_spec_l2Vers l (by omega) (fun u hu => by have := hcd u hu; omega)) (args_cons .r args_nil)) fun hs => ?_
   refine hs.s fun hs => hs.sc fun hs => nn <| wp_ret <| then_r ?_
   refine hs.rt ?_
   exact (by rw [hb2]; rfl)
  ·rw [put_test v hc] at hb2; replace hb2 := nf hb2
   refine wp_skip <| then_n <| sr <| hs.m fun hs => ?_
   refine hs.o .la fun hs => ?_
   refine hs.o (ok_call (c_spec_l3Put l v (by omega) (fun u hu => by have := hcd u hu; omega) (by have := depsOk_len6 (verOk_depsOk (canPut_parts hb2).1); omega)) (args_cons .r (args_cons (.t rfl) args_nil))) fun hs => ?_
   refine hs.s fun hs => hs.sc fun hs => nn <| wp_ret ?_
   refine hs.rt ?_
   exact (by rw [hb2, ← insV2_eq (place_neg (canPut_parts hb2).2.1)]; rfl)
set_option maxHeartbeats 4000000 in
theorem c_spec_ChainSlot (l : List Ver) (slot : Int) (hc : chainOk l = true) :
    Fn Tryz.prog 165 [versAV l, AV.int slot] (AV.tup [versAV (l.filter (slotIs slot)), versAV (l.filter (fun v => !slotIs slot v))]) := by
 refine Fn.intro 48 Tryz.func165 rfl Tryz.ntmps165 rfl (by kernel_rfl) (fun W I a hs => ?_)
 have hle := hs.lenleM (t := 0) rfl
 have hl80 := chain_len hc
 have hcd := chain_deps hc
 refine sr <| hs.sc fun hs => hs.sc fun hs => nn <| sr ?_
 refine hs.lit0 rfl un86 ty173 (by decide) fun b9 I a w hs => ?_
 refine hs.s fun hs => nn <| sr ?_
 refine hs.lit0 rfl un86 ty173 (by decide) fun b10 I a w hs => ?_
 refine hs.s fun hs => nn <| wp_seq <| sr <| hs.m fun hs => ?_
 refine hs.o (.cl (c_spec_ChainOk ..)) fun hs => ?_
 refine hs.o .nt fun hs => nn ?_
 refine hs.cd (fun hb1 => ?_) fun hb1 => ?_
 ·exfalso; rw [hc] at hb1; cases hb1
  skip
 ·skip
  refine wp_skip <| then_n <| wp_seq <| sr <| hs.sc fun hs => nn <| wp_block ?_
  refine St.lo (σ := Nat × Value × Value) (run 3 6 (run 30 16 [])) ⟨fun ⟨k, u, v⟩ => [(8, AV.int k), (6, AV.val u), (7, AV.val v)], fun ⟨k, u, v⟩ => [Own.row u 173 7 (((l.take k).filter (slotIs slot)).map Ver.cells), Own.row v 173 7 (((l.take k).filter (fun v => !slotIs slot v)).map Ver.cells)], fun ⟨k, u, v⟩ => k ≤ l.length⟩ (fun ⟨k, u, v⟩ => l.length - k) (0, .slice (some ⟨b9, 0, none⟩) 0 0, .slice (some ⟨b10, 0, none⟩) 0 0) hs ?ok1 ?round1
  case ok1 => exact Nat.zero_le _
  case round1 =>
   rintro ⟨k, u, v⟩ I a w hok hs
   have hk : k ≤ l.length := hok
   have hf1 := filt_len (slotIs slot) l k
   have hf2 := filt_len (fun v => !slotIs slot v) l k
   change St _ _ [Own.row u 173 7 (((l.take k).filter (slotIs slot)).map Ver.cells), Own.row v 173 7 (((l.take k).filter (fun v => !slotIs slot v)).map Ver.cells)] _ _ _ at hs
   refine wp_seq <| sr <| hs.m fun hs => hs.m fun hs => ?_
   refine hs.o .ln fun hs => ?_
   refine hs.o .lss fun hs => nn ?_
   refine hs.cd (fun hb2 => ?_) fun hb2 => ?_
   ·try simp only [B] at hb2
    refine wp_skip <| then_n <| wp_seq <| wp_block <| sr <| hs.m fun hs => hs.m fun hs => ?_
    refine hs.o .ix fun hs => ?_
    refine hs.o .fp fun hs => hs.o .l1 fun hs => hs.o (.c1 (c_spec_VerSlot ..)) fun hs => hs.m fun hs => hs.o .eqi fun hs => nn ?_
    refine hs.cd (fun hb3 => ?_) fun hb3 => ?_
    ·change slotIs slot (elt l k) = true at hb3
     refine St.region <| hs.m fun hs => hs.m fun hs => hs.m fun hs => ?_
     refine hs.o .ix fun hs => ?_
     refine hs.o .la fun hs => ?_
     refine hs.o (ok_call (c_spec_l2Copy _ (by have := hcd _ (elt_mem hb2); omega)) (args_cons (.t rfl) args_nil)) fun hs => ?_
     refine hs.o (.li [(elt l k).cells] zo173 (.u .nil)) fun hs => ?_
     refine hs.append 0 rfl un86 ty173 rfl .tt .r rfl (by simp; omega) fun v37 a w hs => ?_
     rw [snocD, ← filt_yes hb2 hb3, show (l.take k).filter (fun v => !slotIs slot v) = (l.take (k + 1)).filter (fun v => !slotIs slot v) from (filt_no hb2 (by show (!slotIs slot _) = false; rw [hb3]; rfl)).symm] at hs
     refine hs.s fun hs => wpList_nil <| block_n <| then_n <| St.region <| hs.m fun hs => ?_
     refine hs.o .ad fun hs => ?_
     refine hs.s fun hs => nn ?_
     exact hs.ag (k + 1, v37, v) (hb2)
    ·change slotIs slot (elt l k) = false at hb3
     refine St.region <| hs.m fun hs => hs.m fun hs => hs.m fun hs => ?_
     refine hs.o .ix fun hs => ?_
     refine hs.o .la fun hs => ?_
     refine hs.o (ok_call (c_spec_l2Copy _ (by have := hcd _ (elt_mem hb2); omega)) (args_cons (.t rfl) args_nil)) fun hs => ?_
     refine hs.o (.li [(elt l k).cells] zo173 (.u .nil)) fun hs => ?_
     refine hs.append 1 rfl un86 ty173 rfl .tt .r rfl (by simp; omega) fun v45 a w hs => ?_
     rw [snocD, ← filt_yes (p := (fun v => !slotIs slot v)) hb2 (by show (!slotIs slot _) = true; rw [hb3]; rfl), show (l.take k).filter (slotIs slot) = (l.take (k + 1)).filter (slotIs slot) from (filt_no hb2 hb3).symm] at hs
     refine hs.s fun hs => wpList_nil <| block_n <| then_n <| St.region <| hs.m fun hs => ?_
     refine hs.o .ad fun hs => ?_
     refine hs.s fun hs => nn ?_
     exact hs.ag (k + 1, u, v45) (hb2)
   ·try simp only [B] at hb2
    refine wp_exit <| then_x <| then_x <| block_hit <| then_n <| sr <| hs.m fun hs => hs.m fun hs => hs.s fun hs => hs.s fun hs => nn <| wp_ret ?_
    obtain ⟨I, hs, hf⟩ := hs.freezeRow 0 rfl
    have hs := hs.upd (t := 4) rfl hf; clear hf
    obtain ⟨I, hs, hf⟩ := hs.freezeRow 1 rfl
    have hs := hs.upd (t := 5) rfl hf; clear hf
    refine hs.rt ?_
    exact (by rw [List.take_of_length_le (by omega)]; rfl)
theorem c_spec_l21Dep (l : List Dep) (d : Dep) :
    Fn Tryz.prog 133 [depsAV l, d.av] (AV.int (depI l d)) := by
 refine Fn.intro 19 Tryz.func133 rfl Tryz.ntmps133 rfl (by kernel_rfl) (fun W I a hs => ?_)
 have hle := hs.lenleM (t := 0) rfl
 refine sr <| hs.o .bp fun hs => hs.sc fun hs => nn <| wp_seq <| sr <| hs.sc fun hs => nn <| wp_block ?_
 refine St.lo (σ := Nat) (run 15 4 []) ⟨fun k => [(5, AV.int k)], fun k => [], fun k => k ≤ l.length ∧ ∀ i, i < k → (fun e => decide (e = d)) (elt l i) = false⟩ (fun k => l.length - k) 0 hs ?ok1 ?round1
 case ok1 => exact ⟨Nat.zero_le _, fun i hi => by omega⟩
 case round1 =>
  rintro k I a w hok hs
  obtain ⟨hk, hall⟩ := hok
  refine wp_seq <| sr <| hs.m fun hs => hs.m fun hs => ?_
  refine hs.o .ln fun hs => ?_
  refine hs.o .lss fun hs => nn ?_
  refine hs.cd (fun hb1 => ?_) fun hb1 => ?_
  ·try simp only [B] at hb1
   refine wp_skip <| then_n <| wp_seq <| wp_block <| wp_seq <| hs.dk <| .o .mv <| .o .mv ?_
   refine .o .ix ?_
   refine .o .la ?_
   refine .o .la ?_
   refine .o (ok_eqS [_, _, _] [_, _, _] eqt165 rfl rfl .tt .tt) <| .nil ?_
   intro I a w hs
   refine then_n ?_
   refine hs.cd (fun hb2 => ?_) fun hb2 => ?_
   ·rw [dep_eq] at hb2
    refine sr <| hs.m fun hs => hs.s fun hs => nn <| wp_ret <| block_r <| then_r <| then_r <| block_r <| then_r ?_
    refine hs.rt ?_
    exact ret_int (idx_hit hb1 hall hb2).symm
   ·rw [dep_eq] at hb2
    refine wp_skip <| block_n <| then_n <| St.region <| hs.m fun hs => ?_
    refine hs.o .ad fun hs => ?_
    refine hs.s fun hs => nn ?_
    exact hs.ag (k + 1) (⟨hb1, fun i h1 => by rcases Nat.lt_succ_iff_lt_or_eq.1 h1 with h | h; exact hall i h; rw [h]; exact hb2⟩)
  ·try simp only [B] at hb1
   refine wp_exit <| then_x <| then_x <| block_hit <| then_n <| sr <| hs.sc fun hs => nn <| wp_ret ?_
   refine hs.rt ?_
   exact ret_int (idx_none (by omega) hall).symm
set_option maxHeartbeats 4000000 in
theorem c_spec_l21PutDep (l : List Dep) (d : Dep) (h : l.length ≤ 1048575) :
    Fn Tryz.prog 161 [depsAV l, d.av] (depsAV (addD l d)) := by
 refine Fn.intro 72 Tryz.func161 rfl Tryz.ntmps161 rfl (by kernel_rfl) (fun W I a hs => ?_)
 refine sr <| hs.o .bp fun hs => hs.sc fun hs => nn <| wp_seq <| sr <| hs.m fun hs => ?_
 refine hs.o .la fun hs => ?_
 refine hs.o (.cl (c_spec_l21Dep ..)) fun hs => ?_
 refine hs.o .geqc fun hs => nn ?_
 refine hs.cd (fun hb1 => ?_) fun hb1 => ?_
 ·try simp only [B] at hb1
  refine sr ?_
  refine hs.lit0 rfl un87 ty165 (by decide) fun b12 I a w hs => ?_
  refine hs.m fun hs => ?_
  refine hs.append 0 rfl un87 ty165 rfl .tt .r rfl (by simp; omega) fun v14 a w hs => ?_
  obtain ⟨I, hs, hf⟩ := hs.freezeRow 0 rfl
  have hs := hs.upd (t := 14) rfl hf; clear hf
  refine hs.s fun hs => nn <| wp_ret <| then_r ?_
  refine hs.rt ?_
  exact congrArg (AV.rows 3) (by unfold addD; rw [if_pos hb1]; rfl)
 ·try simp only [B] at hb1
  refine wp_skip <| then_n <| sr ?_
  refine hs.lit0 rfl un87 ty165 (by decide) fun b15 I a w hs => ?_
  refine hs.s fun hs => nn <| sr <| hs.sc fun hs => nn <| wp_seq <| sr <| hs.sc fun hs => nn <| wp_block ?_
  refine St.lo (σ := Nat × Bool × List Dep × Value) (run 3 5 (run 49 16 [])) ⟨fun ⟨k, done, out, u⟩ => [(7, AV.int k), (6, AV.bool done), (5, AV.val u)], fun ⟨k, done, out, u⟩ => [Own.row u 165 3 (out.map Dep.cells)], fun ⟨k, done, out, u⟩ => InsDAt l d k done out⟩ (fun ⟨k, done, out, u⟩ => l.length - k) (0, false, [], .slice (some ⟨b15, 0, none⟩) 0 0) hs ?ok1 ?round1
  case ok1 => exact InsDAt.zero l d
  case round1 =>
   rintro ⟨k, done, out, u⟩ I a w hok hs
   have hp : InsDAt l d k done out := hok
   have hk := hp.hk
   have hol := hp.len
   have hdn : done.toNat ≤ 1 := by cases done <;> simp
   change St _ _ [Own.row u 165 3 (out.map Dep.cells)] _ _ _ at hs
   refine wp_seq <| sr <| hs.m fun hs => hs.m fun hs => ?_
   refine hs.o .ln fun hs => ?_
   refine hs.o .lss fun hs => nn ?_
   refine hs.cd (fun hb2 => ?_) fun hb2 => ?_
   ·try simp only [B] at hb2
    refine wp_skip <| then_n <| wp_seq <| wp_block <| wp_seq <| wp_seq <| hs.dk <| .o .mv <| .o .nt <| .o .mv <| .q .T .mv <| .q .T .mv ?_
    refine .q .T .ix ?_
    refine .q .T (.fx .ag) ?_
    refine .q .T (.lx .ag) ?_
    refine .q .T .fp ?_
    refine .q .T (.lx .ag) ?_
    refine .q .T (ok_gtr .ag .ag) ?_
    refine .q .T (.mx .ag) ?_
    refine .q .F2 .mv <| .q .F2 .mv ?_
    refine .q .F2 .ix ?_
    refine .q .F2 (.fx .ag) ?_
    refine .q .F2 (.lx .ag) ?_
    refine .q .F2 .fp ?_
    refine .q .F2 (.lx .ag) ?_
    refine .q .F2 (ok_eqi .ag .ag) ?_
    refine .q .F2 (.mx .ag) ?_
    refine .q .T2 .fp ?_
    refine .q .T2 .la ?_
    refine .q .T2 .mv <| .q .T2 .mv ?_
    refine .q .T2 .ix ?_
    refine .q .T2 (.fx .ag) ?_
    refine .q .T2 .la ?_
    refine .q .T2 (.cl (c_spec_StampLess ..)) ?_
    refine .q .F2 (ok_and .ag .pc .c) ?_
    refine .q .T (ok_or .ag .c .pc) ?_
    refine .o .an <| .nil ?_
    intro I a w hs
    refine then_n ?_
    refine hs.cd (fun hb3 => ?_) fun hb3 => ?_
    ·rw [depLess_test] at hb3; simp only [B] at hb3
     refine sr <| hs.m fun hs => ?_
     refine hs.o .la fun hs => ?_
     refine hs.o (.li [d.cells] zo165 (.u .nil)) fun hs => ?_
     refine hs.append 0 rfl un87 ty165 rfl .tt .r rfl (by simp; omega) fun v57 a w hs => ?_
     rw [snocD] at hs
     refine hs.s fun hs => nn <| St.region <| hs.sc fun hs => nn <| St.region <| hs.m fun hs => hs.m fun hs => hs.m fun hs => ?_
     refine hs.o .ix fun hs => ?_
     refine hs.o .la fun hs => ?_
     refine hs.o (.li [(elt l k).cells] zo165 (.u .nil)) fun hs => ?_
     refine hs.append 0 rfl un87 ty165 rfl .tt .r rfl (by simp; omega) fun v64 a w hs => ?_
     rw [snocD] at hs
     refine hs.s fun hs => wpList_nil <| block_n <| then_n <| St.region <| hs.m fun hs => ?_
     refine hs.o .ad fun hs => ?_
     refine hs.s fun hs => nn ?_
     exact hs.ag (k + 1, true, (out ++ [d]) ++ [elt l k], v64) (by obtain ⟨h1, h2⟩ := hb3; subst h1; exact hp.before hb2 h2)
    ·rw [depLess_test] at hb3; simp only [B] at hb3
     refine wp_skip <| then_n <| St.region <| hs.m fun hs => hs.m fun hs => hs.m fun hs => ?_
     refine hs.o .ix fun hs => ?_
     refine hs.o .la fun hs => ?_
     refine hs.o (.li [(elt l k).cells] zo165 (.u .nil)) fun hs => ?_
     refine hs.append 0 rfl un87 ty165 rfl .tt .r rfl (by simp; omega) fun v64 a w hs => ?_
     rw [snocD] at hs
     refine hs.s fun hs => wpList_nil <| block_n <| then_n <| St.region <| hs.m fun hs => ?_
     refine hs.o .ad fun hs => ?_
     refine hs.s fun hs => nn ?_
     exact hs.ag (k + 1, done, out ++ [elt l k], v64) (hp.step hb2 (by simpa using hb3))
   ·try simp only [B] at hb2
    refine wp_exit <| then_x <| then_x <| block_hit <| then_n <| wp_seq <| sr <| hs.m fun hs => hs.o .nt fun hs => nn ?_
    refine hs.cd (fun hb4 => ?_) fun hb4 => ?_
    ·try simp only [B] at hb4
     refine St.region <| hs.m fun hs => ?_
     refine hs.o .la fun hs => ?_
     refine hs.o (.li [d.cells] zo165 (.u .nil)) fun hs => ?_
     refine hs.append 0 rfl un87 ty165 rfl .tt .r rfl (by simp; omega) fun v70 a w hs => ?_
     rw [snocD] at hs
     refine hs.s fun hs => nn <| sr <| hs.m fun hs => hs.s fun hs => nn <| wp_ret ?_
     obtain ⟨I, hs, hf⟩ := hs.freezeRow 0 rfl
     have hs := hs.upd (t := 4) rfl hf; clear hf
     refine hs.rt ?_
     exact congrArg (AV.rows 3) (by subst hb4; unfold addD; rw [if_neg (by omega)]; exact hp.endF (by omega) ▸ rfl)
    ·try simp only [B] at hb4
     refine wp_skip <| then_n <| sr <| hs.m fun hs => hs.s fun hs => nn <| wp_ret ?_
     obtain ⟨I, hs, hf⟩ := hs.freezeRow 0 rfl
     have hs := hs.upd (t := 4) rfl hf; clear hf
     refine hs.rt ?_
     exact congrArg (AV.rows 3) (by subst hb4; unfold addD; rw [if_neg (by omega), hp.endT (by omega)])
theorem c_spec_l21Seen (s : Server) (d : Dep) (hc : chainOk s.vers = true) :
    Fn Tryz.prog 132 [s.av, d.av] (AV.bool (seenS s d)) := by
 refine Fn.intro 25 Tryz.func132 rfl Tryz.ntmps132 rfl (by kernel_rfl) (fun W I a hs => ?_)
 refine sr <| hs.o .bp fun hs => hs.o .bp fun hs => hs.sc fun hs => nn <| sr <| hs.o .fp fun hs => hs.o .l1 fun hs => hs.o .fp fun hs => hs.o .l1 fun hs => hs.o .fp fun hs => ?_
 refine hs.o .la fun hs => ?_
 refine hs.o (.cl (c_spec_ChainAt ..)) fun hs => ?_
 refine hs.m fun hs => ?_
 refine hs.o .e fun hs => hs.o .e fun hs => hs.alloc rfl ty173 zc173 fun b5 I a w hs => ?_
 refine hs.sb 0 fun hs => ?_
 obtain ⟨I, hs, hf⟩ := hs.freezeBox 0 rfl
 have hs := hs.upd (t := 5) rfl hf; clear hf
 refine hs.s fun hs => nn <| sr <| hs.m fun hs => hs.m fun hs => hs.q .F .fp fun hs => ?_
 refine hs.q .F (.lx .ag) fun hs => ?_
 refine hs.q .F .la fun hs => ?_
 refine hs.q .F (.cl (c_spec_l21Dep ..)) fun hs => ?_
 refine hs.q .F (ok_geq .ag .c) fun hs => ?_
 refine hs.o .or fun hs => hs.s fun hs => nn <| wp_ret ?_
 refine hs.rt ?_
 exact ret_bool (by unfold seenS; rw [chainAt_some hc])
theorem c_spec_l21Ready (s : Server) (v : Ver) (hc : chainOk s.vers = true) :
    Fn Tryz.prog 171 [s.av, v.av] (AV.bool (readyS s v)) := by
 refine Fn.intro 21 Tryz.func171 rfl Tryz.ntmps171 rfl (by kernel_rfl) (fun W I a hs => ?_)
 have lens : v.deps.length ≤ 9223372036854775807 := by
    obtain ⟨cs, _, hc⟩ := hs.env 1 _ rfl
    obtain ⟨u0, _, h0, _⟩ := hc.get (i := 6) rfl
    exact rows_le h0
 refine sr <| hs.o .bp fun hs => hs.o .bp fun hs => hs.sc fun hs => nn <| wp_seq <| sr <| hs.sc fun hs => nn <| wp_block ?_
 refine St.lo (σ := Nat) (run 17 4 []) ⟨fun k => [(5, AV.int k)], fun k => [], fun k => k ≤ v.deps.length ∧ ∀ i, i < k → (fun i => seenS s (elt v.deps i)) i = true⟩ (fun k => v.deps.length - k) 0 hs ?ok1 ?round1
 case ok1 => exact ⟨Nat.zero_le _, fun i hi => by omega⟩
 case round1 =>
  rintro k I a w hok hs
  obtain ⟨hk_k, hall⟩ := hok
  refine wp_seq <| sr <| hs.m fun hs => hs.o .fp fun hs => hs.o .l1 fun hs => ?_
  refine hs.o .ln fun hs => ?_
  refine hs.o .lss fun hs => nn ?_
  refine hs.cd (fun hb1 => ?_) fun hb1 => ?_
  ·try simp only [B] at hb1
   refine wp_skip <| then_n <| wp_seq <| wp_block <| wp_seq <| hs.dk ?_
   refine .o .la ?_
   refine .o .fp <| .o .l1 <| .o .mv ?_
   refine .o .ix ?_
   refine .o .la ?_
   refine .o (.c2 (c_spec_l21Seen _ _ hc)) <| .o .nt <| .nil ?_
   intro I a w hs
   refine then_n ?_
   refine hs.cd (fun hb2 => ?_) fun hb2 => ?_
   ·try simp only [B] at hb2
    refine sr <| hs.sc fun hs => nn <| wp_ret <| block_r <| then_r <| then_r <| block_r <| then_r ?_
    refine hs.rt ?_
    exact ret_bool (allN_false (f := fun i => seenS s (elt v.deps i)) hb1 hb2).symm
   ·try simp only [B] at hb2
    refine wp_skip <| block_n <| then_n <| St.region <| hs.m fun hs => ?_
    refine hs.o .ad fun hs => ?_
    refine hs.s fun hs => nn ?_
    exact hs.ag (k + 1) (⟨by omega, allN_next hall hb2⟩)
  ·try simp only [B] at hb1
   refine wp_exit <| then_x <| then_x <| block_hit <| then_n <| sr <| hs.sc fun hs => nn <| wp_ret ?_
   refine hs.rt ?_
   exact ret_bool (allN_true hall (by omega)).symm
theorem c_spec_l21Wanted (s : Server) (d : Dep) :
    Fn Tryz.prog 163 [s.av, d.av] (AV.bool (wantedS s d)) := by
 refine Fn.intro 22 Tryz.func163 rfl Tryz.ntmps163 rfl (by kernel_rfl) (fun W I a hs => ?_)
 have lens : s.slots.length ≤ 9223372036854775807 ∧ s.vers.length ≤ 9223372036854775807 ∧ s.waits.length ≤ 9223372036854775807 ∧ s.owes.length ≤ 9223372036854775807 ∧ s.knows.length ≤ 9223372036854775807 := by
    obtain ⟨cs, _, hc⟩ := hs.env 0 _ rfl
    obtain ⟨u0, _, h0, _⟩ := hc.get (i := 2) rfl
    obtain ⟨u1, _, h1, _⟩ := hc.get (i := 3) rfl
    obtain ⟨u2, _, h2, _⟩ := hc.get (i := 4) rfl
    obtain ⟨u3, _, h3, _⟩ := hc.get (i := 5) rfl
    obtain ⟨u4, _, h4, _⟩ := hc.get (i := 6) rfl
    exact ⟨rows_le h0, rows_le h1, rows_le h2, rows_le h3, rows_le h4⟩
 refine sr <| hs.o .bp fun hs => hs.o .bp fun hs => hs.sc fun hs => nn <| wp_seq <| sr <| hs.sc fun hs => nn <| wp_block ?_
 refine St.lo (σ := Nat) (run 18 4 []) ⟨fun k => [(5, AV.int k)], fun k => [], fun k => k ≤ s.waits.length ∧ ∀ i, i < k → (fun i => !wantV d (elt s.waits i)) i = true⟩ (fun k => s.waits.length - k) 0 hs ?ok1 ?round1
 case ok1 => exact ⟨Nat.zero_le _, fun i hi => by omega⟩
 case round1 =>
  rintro k I a w hok hs
  obtain ⟨hk_k, hall⟩ := hok
  refine wp_seq <| sr <| hs.m fun hs => hs.o .fp fun hs => hs.o .l1 fun hs => ?_
  refine hs.o .ln fun hs => ?_
  refine hs.o .lss fun hs => nn ?_
  refine hs.cd (fun hb1 => ?_) fun hb1 => ?_
  ·try simp only [B] at hb1
   refine wp_skip <| then_n <| wp_seq <| wp_block <| wp_seq <| hs.dk <| .o .fp <| .o .l1 <| .o .mv ?_
   refine .o .ix ?_
   refine .o .fp <| .o .l1 ?_
   refine .o .la ?_
   refine .o (.cl (c_spec_l21Dep ..)) ?_
   refine .o .geqc <| .nil ?_
   intro I a w hs
   refine then_n ?_
   refine hs.cd (fun hb2 => ?_) fun hb2 => ?_
   ·try simp only [B] at hb2
    refine sr <| hs.sc fun hs => nn <| wp_ret <| block_r <| then_r <| then_r <| block_r <| then_r ?_
    refine hs.rt ?_
    exact ret_bool (by unfold wantedS; rw [allN_false (f := fun i => !wantV d (elt s.waits i)) hb1 (by unfold wantV; simp; omega)]; rfl)
   ·try simp only [B] at hb2
    refine wp_skip <| block_n <| then_n <| St.region <| hs.m fun hs => ?_
    refine hs.o .ad fun hs => ?_
    refine hs.s fun hs => nn ?_
    exact hs.ag (k + 1) (⟨by omega, allN_next hall (by unfold wantV; simp; omega)⟩)
  ·try simp only [B] at hb1
   refine wp_exit <| then_x <| then_x <| block_hit <| then_n <| sr <| hs.sc fun hs => nn <| wp_ret ?_
   refine hs.rt ?_
   exact ret_bool (by unfold wantedS; rw [allN_true hall (by omega)]; rfl)
theorem c_spec_ServerOwns (s : Server) (key : Int) (hok : serverOk s = true) :
    Fn Tryz.prog 156 [s.av, AV.int key] (AV.bool (ownsS s key)) := by
 refine Fn.intro 21 Tryz.func156 rfl Tryz.ntmps156 rfl (by kernel_rfl) (fun W I a hs => ?_)
 have hp := serverOk_parts hok
 refine sr <| hs.o .bp fun hs => hs.sc fun hs => nn <| wp_seq <| hs.dk ?_
 refine .o .la ?_
 refine .o (.c1 (c_spec_ServerOk ..)) <| .o .mv <| .q .T .mv ?_
 refine .q .T (.cl (c_spec_l2Key ..)) ?_
 refine .o .an <| .o .mv <| .q .T .fp ?_
 refine .q .T (.lx .ag) ?_
 refine .q .T .mv ?_
 refine .q .T (.cl (c_spec_VerSlot ..)) ?_
 refine .q .T ((by first | exact ok_idxN un85 ty100 .ag .ag (fun hg => by have := owns_range hg; omega) | exact ok_idxM un85 ty100 .ag .ag (fun hg => by have := owns_range hg; omega) | exact ok_idx un85 ty100 .ag .ag (fun hg => by have := owns_range hg; omega))) ?_
 refine .q .T (.fx .ag) ?_
 refine .q .T (.lx .ag) ?_
 refine .q .T (ok_eqi .ag .c) ?_
 refine .o .an <| .o .as <| .nil ?_
 intro I a w hs
 refine then_n <| wp_ret ?_
 refine hs.rt ?_
 exact ret_bool (by rw [hok]; rfl)
theorem c_spec_l21Twin (n : Int) (hn : siteB n = true) :
    Fn Tryz.prog 124 [AV.int n] (AV.int (twinI n)) := by
 refine Fn.intro 10 Tryz.func124 rfl Tryz.ntmps124 rfl (by kernel_rfl) (fun W I a hs => ?_)
 have hn2 : 0 ≤ n ∧ n ≤ 3 := by simpa [siteB, inB] using hn
 refine sr <| hs.sc fun hs => nn <| wp_seq <| sr <| hs.m fun hs => ?_
 refine hs.o (ok_rem .tt .c (fun _ => by omega)) fun hs => ?_
 refine hs.o .eqic fun hs => nn ?_
 refine hs.cd (fun hb1 => ?_) fun hb1 => ?_
 ·skip
  refine sr <| hs.m fun hs => ?_
  refine hs.o .ad fun hs => ?_
  refine hs.s fun hs => nn <| wp_ret <| then_r ?_
  refine hs.rt ?_
  exact ret_int (by unfold twinI; rw [if_pos (by simpa using hb1)])
 ·skip
  refine wp_skip <| then_n <| sr <| hs.m fun hs => ?_
  refine hs.o .su fun hs => ?_
  refine hs.s fun hs => nn <| wp_ret ?_
  refine hs.rt ?_
  exact ret_int (by unfold twinI; rw [if_neg (by simpa using hb1)])
set_option maxHeartbeats 4000000 in
theorem c_spec_l22Called (s : Server) (key client call : Int) :
    Fn Tryz.prog 157 [s.av, AV.int key, AV.int client, AV.int call] (AV.tup [((calledS s key client call).getD default).av, AV.bool (calledS s key client call).isSome]) := by
 refine Fn.intro 52 Tryz.func157 rfl Tryz.ntmps157 rfl (by kernel_rfl) (fun W I a hs => ?_)
 have lens : s.slots.length ≤ 9223372036854775807 ∧ s.vers.length ≤ 9223372036854775807 ∧ s.waits.length ≤ 9223372036854775807 ∧ s.owes.length ≤ 9223372036854775807 ∧ s.knows.length ≤ 9223372036854775807 := by
    obtain ⟨cs, _, hc⟩ := hs.env 0 _ rfl
    obtain ⟨u0, _, h0, _⟩ := hc.get (i := 2) rfl
    obtain ⟨u1, _, h1, _⟩ := hc.get (i := 3) rfl
    obtain ⟨u2, _, h2, _⟩ := hc.get (i := 4) rfl
    obtain ⟨u3, _, h3, _⟩ := hc.get (i := 5) rfl
    obtain ⟨u4, _, h4, _⟩ := hc.get (i := 6) rfl
    exact ⟨rows_le h0, rows_le h1, rows_le h2, rows_le h3, rows_le h4⟩
 refine sr <| hs.o .bp fun hs => hs.alloc rfl ty173 zc173 fun b8 I a w hs => hs.sc fun hs => nn <| wp_seq <| sr <| hs.sc fun hs => nn <| wp_block ?_
 refine St.lo (σ := Nat) (run 42 9 []) ⟨fun k => [(10, AV.int k)], fun k => [Own.box b8 173 [AV.val (.int .i64 0), AV.val (.int .i64 0), AV.val (.int .i64 0), AV.val (.int .i64 0), AV.val (.int .i64 0), AV.val (.int .i64 0), AV.rows 3 []]], fun k => k ≤ s.vers.length ∧ ∀ i, i < k → (calledB s key client call) (elt s.vers i) = false⟩ (fun k => s.vers.length - k) 0 hs ?ok1 ?round1
 case ok1 => exact ⟨Nat.zero_le _, fun i hi => by omega⟩
 case round1 =>
  rintro k I a w hok hs
  obtain ⟨hk, hall⟩ := hok
  refine wp_seq <| sr <| hs.m fun hs => hs.o .fp fun hs => hs.o .l1 fun hs => ?_
  refine hs.o .ln fun hs => ?_
  refine hs.o .lss fun hs => nn ?_
  refine hs.cd (fun hb1 => ?_) fun hb1 => ?_
  ·try simp only [B] at hb1
   refine wp_skip <| then_n <| wp_seq <| wp_block <| sr <| hs.o .fp fun hs => hs.o .l1 fun hs => hs.m fun hs => ?_
   refine hs.o .ix fun hs => ?_
   refine hs.o .la fun hs => ?_
   refine hs.alloc rfl ty173 zc173 fun b11 I a w hs => ?_
   refine hs.sb 1 fun hs => ?_
   obtain ⟨I, hs, hf⟩ := hs.freezeBox 1 rfl
   have hs := hs.upd (t := 11) rfl hf; clear hf
   refine nn <| wp_seq <| hs.dk <| .o .fp <| .o .l1 <| .o .mv <| .o .eqi <| .o .mv <| .q .T .fp ?_
   refine .q .T (.lx .ag) ?_
   refine .q .T .mv ?_
   refine .q .T (ok_eqi .ag .ag) ?_
   refine .o .an <| .o .mv <| .q .T .fp ?_
   refine .q .T (.lx .ag) ?_
   refine .q .T .mv ?_
   refine .q .T (ok_eqi .ag .ag) ?_
   refine .o .an <| .o .mv <| .q .T .fp ?_
   refine .q .T (.fx .ag) ?_
   refine .q .T (.lx .ag) ?_
   refine .q .T (.cl (c_spec_SiteSide ..)) ?_
   refine .q .T .fp ?_
   refine .q .T (.lx .ag) ?_
   refine .q .T (.cl (c_spec_SiteSide ..)) ?_
   refine .q .T (ok_eqi .ag .ag) ?_
   refine .o .an <| .nil ?_
   intro I a w hs
   refine then_n ?_
   refine hs.cd (fun hb2 => ?_) fun hb2 => ?_
   ·change (calledB s key client call) (elt s.vers k) = true at hb2
    refine sr ?_
    refine hs.o .la fun hs => ?_
    refine hs.sb 0 fun hs => ?_
    refine hs.sc fun hs => nn <| wp_ret <| block_r <| then_r <| then_r <| block_r <| then_r ?_
    refine hs.ret rfl (.cons (.s 0 ty173 rfl rfl (by first | rfl | assumption)) (.cons (.t rfl) ResL.nil)) ?_
    exact (by rw [show calledS s key client call = some (elt s.vers k) from findV_hit hb1 hall hb2]; rfl)
   ·change (calledB s key client call) (elt s.vers k) = false at hb2
    refine wp_skip <| block_n <| then_n <| St.region <| hs.m fun hs => ?_
    refine hs.o .ad fun hs => ?_
    refine hs.s fun hs => nn ?_
    have hs := hs.drop 1
    exact hs.ag (k + 1) (⟨hb1, fun i h1 => by rcases Nat.lt_succ_iff_lt_or_eq.1 h1 with h | h; exact hall i h; rw [h]; exact hb2⟩)
  ·try simp only [B] at hb1
   refine wp_exit <| then_x <| then_x <| block_hit <| then_n <| sr ?_
   refine hs.o (.bd zc173 Parts.nil) fun hs => ?_
   refine hs.sb 0 fun hs => ?_
   refine hs.sc fun hs => nn <| wp_ret ?_
   refine hs.ret rfl (.cons (.s 0 ty173 rfl rfl (by first | rfl | assumption)) (.cons (.t rfl) ResL.nil)) ?_
   exact (by rw [show calledS s key client call = none from findV_none (by omega) hall]; rfl)
end Go.Proofs.YtkoebplikhlapaaGreatDoor
