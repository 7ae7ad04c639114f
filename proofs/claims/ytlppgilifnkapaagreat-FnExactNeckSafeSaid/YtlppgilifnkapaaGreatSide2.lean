/- Walks: the reference of a side; both sides the same. -/
import Derived.Test.YtlppgilifnkapaaGreatSide1
set_option linter.unusedVariables false
set_option linter.unusedSimpArgs false
set_option maxRecDepth 100000
namespace Go.Proofs.YtlppgilifnkapaaGreat
open Go Go.RowKit


def sideR (x : Neck) (s : Int) : List Ver := if neckOk x && inB s 0 1 then sideL x s else []
theorem sideTo_len {x : Neck} (hok : neckOk x = true) {s : Int} (h0 : 0 ≤ s) (h1 : s ≤ 1) : ∀ {j : Nat}, j ≤ 2 → (sideTo x s j).length ≤ 80 * j
  | 0, _ => by simp [sideTo]
  | j + 1, hj => by
    have ih := sideTo_len hok h0 h1 (j := j) (by omega)
    have hc := chain_len (side_parts hok (i := (2 * s + j).toNat) (by omega)).1
    rw [sideTo_succ]
    have := adds_len (elt x.servers (2 * s + j).toNat).vers (sideTo x s j)
    omega
theorem sideTo_small {x : Neck} (hok : neckOk x = true) {s : Int} (h0 : 0 ≤ s) (h1 : s ≤ 1) : ∀ {j : Nat}, j ≤ 2 → ∀ v ∈ sideTo x s j, v.deps.length ≤ 6
  | 0, _ => by intro v hv; simp [sideTo] at hv
  | j + 1, hj => by
    rw [sideTo_succ]
    exact adds_small (chain_deps (side_parts hok (i := (2 * s + j).toNat) (by omega)).1) (sideTo_small hok h0 h1 (j := j) (by omega))
theorem known_no {l : List Ver} {d : Dep} (h : (atV l d).isSome = false) : placeOf l d < 0 := by
  rw [atV_some, decide_eq_false_iff_not] at h; omega
theorem known_yes {l : List Ver} {d : Dep} (h : (atV l d).isSome = true) : ¬ placeOf l d < 0 := by
  rw [atV_some, decide_eq_true_eq] at h; omega
def pairAll (p : Ver → Ver → Bool) (x y : List Ver) : Bool := decide (x.length = y.length) && allN x.length fun i => p (elt x i) (elt y i)
theorem pair_same (x y : List Ver) : pairAll verIs x y = decide (x = y) := by
  rw [Bool.eq_iff_iff, decide_eq_true_eq]
  unfold pairAll
  rw [Bool.and_eq_true, decide_eq_true_eq, allN_iff]
  constructor
  · rintro ⟨h1, h2⟩
    exact elts_eq h1 fun i hi => by simpa [verIs] using h2 i hi
  · rintro rfl
    exact ⟨rfl, fun i _ => by simp [verIs]⟩

set_option maxHeartbeats 4000000 in
theorem c_spec_NeckSide (x : Neck) (s : Int) (hgl : ∀ q ∈ x.calls, q.got.length ≤ 1048576) :
    Fn Tryz.prog 26 [x.av, AV.int s] (versAV (sideR x s)) := by
 refine Fn.intro 65 Tryz.func26 rfl Tryz.ntmps26 rfl (by kernel_rfl) (fun W I a hs => ?_)
 refine wp_seq <| St.region <| hs.o (ok_boxP .tt) fun hs => hs.sc fun hs => wpList_nil <| then_n <| wp_seq <| St.region ?_
 refine hs.lit0 rfl un48 ty94 (by decide) fun b11 I a w hs => ?_
 obtain ⟨I, hs, hf⟩ := hs.freezeRow 0 rfl
 have hs := hs.upd (t := 11) rfl hf; clear hf
 have hs := hs.drop 0
 refine hs.s fun hs => wpList_nil <| then_n <| wp_seq <| wp_seq <| St.region ?_
 refine hs.o ((by first | exact ok_loadA ty35 .tt rfl | exact ok_loadS ty35 .tt rfl)) fun hs => ?_
 refine hs.o (ok_call (c_spec_NeckOk x hgl) (args_cons .tt args_nil)) fun hs => hs.o (ok_not .tt) fun hs => hs.m fun hs => hs.q .F (ok_move .tt) fun hs => hs.q .F (ok_call (c_spec_l6In ..) (args_cons .ag (args_cons .c (args_cons .c args_nil)))) fun hs => ?_
 refine hs.q .F (ok_not .ag) fun hs => ?_
 refine hs.o (ok_or .tt .c .pc) fun hs => wpList_nil <| then_n ?_
 refine hs.cond .tt (fun hb1 => ?_) (fun hb1 => ?_)
 ·simp only [B] at hb1
  refine wp_seq <| St.region <| hs.m fun hs => hs.s fun hs => wpList_nil <| then_n <| wp_ret <| then_r ?_
  refine hs.ret rfl (.cons (by first | exact .t rfl | exact .nil rfl) ResL.nil) ?_
  exact (by rw [show sideR x s = [] by unfold sideR; rcases hb1 with h | h <;> rw [h] <;> simp]; rfl)
 ·simp only [B] at hb1
  have hs2 : 0 ≤ s ∧ s ≤ 1 := by have := hb1.2; simp [inB] at this; exact this
  have h4 := (neckOk_server hb1.1 (k := 0) (by omega)).2.1
  refine wp_skip <| then_n <| wp_seq <| wp_seq <| St.region <| hs.m fun hs => ?_
  refine hs.o (ok_mul .c .tt (fun _ => by omega)) fun hs => ?_
  refine hs.s fun hs => wpList_nil <| then_n <| wp_block ?_
  refine St.loopS (σ := Nat) (5 :: 6 :: 7 :: 8 :: 9 :: 10 :: 23 :: 24 :: 25 :: 26 :: 27 :: 28 :: 29 :: 30 :: 31 :: 32 :: 33 :: 34 :: 35 :: 36 :: 37 :: 38 :: 39 :: 40 :: 41 :: 42 :: 43 :: 44 :: 45 :: 46 :: 47 :: 48 :: 49 :: 50 :: 51 :: 52 :: 53 :: 54 :: 55 :: 56 :: 57 :: 58 :: 59 :: 60 :: 61 :: 62 :: 63 :: []) ⟨fun j => [(6, AV.int (2 * s + (j : Int))), (5, versAV (sideTo x s j))], fun j => [], fun j => j ≤ 2⟩ (fun j => 2 - j) 0 hs rfl ?ok1 ?env1 ?round1
  case ok1 => exact Nat.zero_le _
  case env1 => exact (Env.le_consE rfl (by exact congrArg AV.int (by omega)) (Env.le_consE rfl (by rfl) Env.le_nil))
  case round1 =>
   rintro j I a w hok hs
   have hj : j ≤ 2 := hok
   refine wp_seq <| wp_seq <| St.region <| hs.m fun hs => hs.m fun hs => ?_
   refine hs.o (ok_mul .c .tt (fun _ => by omega)) fun hs => ?_
   refine hs.o (ok_add .tt .c (fun _ => by omega)) fun hs => ?_
   refine hs.o (ok_lss .tt .tt) fun hs => wpList_nil <| then_n ?_
   refine hs.cond .tt (fun hb2 => ?_) (fun hb2 => ?_)
   ·simp only [B] at hb2
    obtain ⟨cj, -⟩ := side_parts hb1.1 (i := (2 * s + j).toNat) (by omega)
    have lj := chain_len cj
    have lt := sideTo_len hb1.1 hs2.1 hs2.2 (j := j) (by omega)
    refine wp_skip <| then_n <| wp_seq <| wp_block <| wp_seq <| St.region <| hs.sc fun hs => wpList_nil <| then_n <| wp_block ?_
    refine St.loopS (σ := Nat) (5 :: 7 :: 8 :: 9 :: 10 :: 30 :: 31 :: 32 :: 33 :: 34 :: 35 :: 36 :: 37 :: 38 :: 39 :: 40 :: 41 :: 42 :: 43 :: 44 :: 45 :: 46 :: 47 :: 48 :: 49 :: 50 :: 51 :: 52 :: 53 :: 54 :: 55 :: 56 :: 57 :: 58 :: 59 :: 60 :: 61 :: 62 :: 63 :: []) ⟨fun k => [(7, AV.int k), (5, versAV (((elt x.servers (2 * s + j).toNat).vers.take k).foldl addV (sideTo x s j)))], fun k => [], fun k => k ≤ (elt x.servers (2 * s + j).toNat).vers.length⟩ (fun k => (elt x.servers (2 * s + j).toNat).vers.length - k) 0 hs rfl ?ok2 ?env2 ?round2
    case ok2 => exact Nat.zero_le _
    case env2 => exact (Env.le_consE rfl (by rfl) (Env.le_consE rfl (by rfl) Env.le_nil))
    case round2 =>
     rintro k I a w hok hs
     have hk : k ≤ (elt x.servers (2 * s + j).toNat).vers.length := hok
     refine wp_seq <| wp_seq <| St.region <| hs.m fun hs => hs.o (ok_fieldP fd35_1 rfl .tt) fun hs => hs.o (ok_load1 ty30 .tt) fun hs => hs.m fun hs => ?_
     refine hs.o ((by first | exact ok_idxN un30 ty89 .tt .tt (fun _ => by omega) | exact ok_idxM un30 ty89 .tt .tt (fun _ => by omega) | exact ok_idx un30 ty89 .tt .tt (fun _ => by omega))) fun hs => ?_
     refine hs.o (ok_fieldP fd89_3 rfl .tt) fun hs => hs.o (ok_load1 ty48 .tt) fun hs => ?_
     refine hs.o ((by first | exact ok_lenM un48 .tt | exact ok_len un48 .tt | exact ok_lenV un48 .tt)) fun hs => ?_
     refine hs.o (ok_lss .tt .tt) fun hs => wpList_nil <| then_n ?_
     refine hs.cond .tt (fun hb3 => ?_) (fun hb3 => ?_)
     ·try simp only [B] at hb3
      refine wp_skip <| then_n <| wp_seq <| wp_block <| wp_seq <| St.region <| hs.o (ok_fieldP fd35_1 rfl .tt) fun hs => hs.o (ok_load1 ty30 .tt) fun hs => hs.m fun hs => ?_
      refine hs.o ((by first | exact ok_idxN un30 ty89 .tt .tt (fun _ => by omega) | exact ok_idxM un30 ty89 .tt .tt (fun _ => by omega) | exact ok_idx un30 ty89 .tt .tt (fun _ => by omega))) fun hs => ?_
      refine hs.o (ok_fieldP fd89_3 rfl .tt) fun hs => hs.o (ok_load1 ty48 .tt) fun hs => hs.m fun hs => ?_
      refine hs.o ((by first | exact ok_idxN un48 ty94 .tt .tt (fun _ => by exact hb3) | exact ok_idxM un48 ty94 .tt .tt (fun _ => by exact hb3) | exact ok_idx un48 ty94 .tt .tt (fun _ => by exact hb3))) fun hs => ?_
      refine hs.o ((by first | exact ok_loadA ty94 .tt rfl | exact ok_loadS ty94 .tt rfl)) fun hs => ?_
      refine hs.alloc rfl ty94 zc94 fun b8 I a w hs => ?_
      refine hs.storeB 0 ty94 .tt .tt rfl (by first | rfl | assumption) rfl fun a w hs => ?_
      obtain ⟨I, hs, hf⟩ := hs.freezeBox 0 rfl
      have hs := hs.upd (t := 8) rfl hf; clear hf
      refine wpList_nil <| then_n <| wp_seq <| St.region <| hs.m fun hs => hs.o (ok_fieldP fd94_0 rfl .tt) fun hs => hs.o (ok_load1 ty3 .tt) fun hs => hs.o (ok_fieldP fd94_1 rfl .tt) fun hs => ?_
      refine hs.o ((by first | exact ok_loadA ty67 .tt rfl | exact ok_loadS ty67 .tt rfl)) fun hs => ?_
      refine hs.o (ok_call (c_spec_l43At ..) (args_cons .r (args_cons .tt (args_cons .tt args_nil)))) fun hs => ?_
      refine hs.m fun hs => hs.o (ok_extract .tt rfl) fun hs => hs.o (ok_extract .tt rfl) fun hs => hs.alloc rfl ty94 zc94 fun b9 I a w hs => ?_
      refine hs.storeB 1 ty94 .tt .tt rfl (by first | rfl | assumption) rfl fun a w hs => ?_
      obtain ⟨I, hs, hf⟩ := hs.freezeBox 1 rfl
      have hs := hs.upd (t := 9) rfl hf; clear hf
      refine hs.s fun hs => wpList_nil <| then_n <| wp_seq <| St.region <| hs.m fun hs => hs.o (ok_not .tt) fun hs => wpList_nil <| then_n ?_
      refine hs.cond .tt (fun hb4 => ?_) (fun hb4 => ?_)
      ·simp only [B] at hb4; change (atV _ (elt (elt x.servers (2 * s + j).toNat).vers k).dep).isSome = false at hb4
       refine St.region <| hs.m fun hs => ?_
       refine hs.o ((by first | exact ok_loadA ty94 .tt rfl | exact ok_loadS ty94 .tt rfl)) fun hs => ?_
       refine hs.o (ok_call (c_spec_l3Put (((elt x.servers (2 * s + j).toNat).vers.take k).foldl addV (sideTo x s j)) (elt (elt x.servers (2 * s + j).toNat).vers k) (by have := adds_len ((elt x.servers (2 * s + j).toNat).vers.take k) (sideTo x s j); simp at this; omega) (fun v hv => by have := adds_small (fun v hv => chain_deps cj v (List.mem_of_mem_take hv)) (sideTo_small hb1.1 hs2.1 hs2.2 (by omega)) v hv; omega) (by have := chain_deps cj _ (elt_mem hb3); omega)) (args_cons .r (args_cons (.t rfl) args_nil))) fun hs => ?_
       refine hs.s fun hs => wpList_nil <| block_n <| then_n <| St.region <| hs.m fun hs => ?_
       refine hs.o (ok_add .tt .c (fun _ => by omega)) fun hs => ?_
       refine hs.s fun hs => wpList_nil <| then_n ?_
       have hs := hs.drop 0
       refine hs.again (k + 1) ?mu1 ?ok1001 (by rfl) ?env1001 (by repeat (first | exact Env.le_rfl | refine Env.le_push rfl ?_))
       case mu1 => omega
       case ok1001 => exact hb3
       case env1001 => exact (Env.le_consE rfl (by rfl) (Env.le_consE rfl (by first | exact congrArg versAV (by rw [adds_take hb3, ← addV2_eq, addV2, if_pos (known_no hb4)]) | exact congrArg versAV (by rw [adds_take hb3, addV, if_neg (known_yes hb4)])) Env.le_nil))
      ·simp only [B] at hb4; change (atV _ (elt (elt x.servers (2 * s + j).toNat).vers k).dep).isSome = true at hb4
       refine wp_skip <| block_n <| then_n <| St.region <| hs.m fun hs => ?_
       refine hs.o (ok_add .tt .c (fun _ => by omega)) fun hs => ?_
       refine hs.s fun hs => wpList_nil <| then_n ?_
       have hs := hs.drop 0
       refine hs.again (k + 1) ?mu2 ?ok1002 (by rfl) ?env1002 (by repeat (first | exact Env.le_rfl | refine Env.le_push rfl ?_))
       case mu2 => omega
       case ok1002 => exact hb3
       case env1002 => exact (Env.le_consE rfl (by rfl) (Env.le_consE rfl (by first | exact congrArg versAV (by rw [adds_take hb3, ← addV2_eq, addV2, if_pos (known_no hb4)]) | exact congrArg versAV (by rw [adds_take hb3, addV, if_neg (known_yes hb4)])) Env.le_nil))
     ·try simp only [B] at hb3
      refine wp_exit <| then_x <| then_x <| block_hit <| block_n <| then_n <| St.region <| hs.m fun hs => ?_
      refine hs.o (ok_add .tt .c (fun _ => by omega)) fun hs => ?_
      refine hs.s fun hs => wpList_nil <| then_n ?_
      refine hs.again (j + 1) ?mu3 ?ok1003 (by rfl) ?env1003 (by repeat (first | exact Env.le_rfl | refine Env.le_push rfl ?_))
      case mu3 => omega
      case ok1003 => show j + 1 ≤ 2; omega
      case env1003 => exact (Env.le_consE rfl (by exact congrArg AV.int (by omega)) (Env.le_consE rfl (by exact congrArg versAV (by rw [List.take_of_length_le (by omega), sideTo_succ])) Env.le_nil))
   ·try simp only [B] at hb2
    refine wp_exit <| then_x <| then_x <| block_hit <| then_n <| wp_seq <| St.region <| hs.m fun hs => hs.s fun hs => wpList_nil <| then_n <| wp_ret ?_
    refine hs.ret rfl (.cons (by first | exact .t rfl | exact .nil rfl) ResL.nil) ?_
    exact congrArg versAV (by unfold sideR; rw [hb1.1, hb1.2, show j = 2 by omega, sideTo_two (chain_sorted (side_parts hb1.1 (i := (2 * s).toNat) (by omega)).1)]; rfl)

theorem c_slices_EqualFunc_impl_Ver_impl_Ver_impl_Ver_impl_Ver (x y : List Ver) (p : Ver → Ver → Bool) (fv : AV) (hf : ∀ u v : Ver, FnV Tryz.prog fv [u.av, v.av] (AV.bool (p u v))) :
    Fn Tryz.prog 58 [versAV x, versAV y, fv] (AV.bool (pairAll p x y)) := by
 refine Fn.intro 32 Tryz.func58 rfl Tryz.ntmps58 rfl (by kernel_rfl) (fun W I a hs => ?_)
 have hlx := hs.lenleM (t := 0) rfl
 have hly := hs.lenleM (t := 1) rfl
 refine wp_seq <| St.region <| hs.sc fun hs => wpList_nil <| then_n <| wp_seq <| wp_seq <| St.region <| hs.m fun hs => ?_
 refine hs.o ((by first | exact ok_lenM un48 .tt | exact ok_len un48 .tt | exact ok_lenV un48 .tt)) fun hs => ?_
 refine hs.m fun hs => ?_
 refine hs.o ((by first | exact ok_lenM un48 .tt | exact ok_len un48 .tt | exact ok_lenV un48 .tt)) fun hs => ?_
 refine hs.o (ok_nei .tt .tt) fun hs => wpList_nil <| then_n ?_
 refine hs.cond .tt (fun hb1 => ?_) (fun hb1 => ?_)
 ·try simp only [B] at hb1
  refine wp_seq <| St.region <| hs.sc fun hs => wpList_nil <| then_n <| wp_ret <| then_r <| hs.ret rfl (.cons (.t rfl) ResL.nil) ?_
  exact ret_bool (by unfold pairAll; rw [show decide (x.length = y.length) = false by simp; omega]; rfl)
 ·try simp only [B] at hb1
  refine wp_skip <| then_n <| wp_seq <| wp_seq <| St.region <| hs.m fun hs => ?_
  refine hs.o ((by first | exact ok_lenM un48 .tt | exact ok_len un48 .tt | exact ok_lenV un48 .tt)) fun hs => ?_
  refine hs.mc fun hs => wpList_nil <| then_n <| wp_block ?_
  refine St.loopS (σ := Nat) (6 :: 7 :: 8 :: 9 :: 17 :: 18 :: 19 :: 20 :: 21 :: 22 :: 23 :: 24 :: 25 :: 26 :: 27 :: 28 :: 29 :: 30 :: 31 :: []) ⟨fun k => [(17, AV.int k)], fun k => [], fun k => k ≤ x.length ∧ ∀ i, i < k → (fun i => p (elt x i) (elt y i)) i = true⟩ (fun k => x.length - k) 0 hs rfl ?ok1 ?env1 ?round1
  case ok1 => exact ⟨Nat.zero_le _, fun i hi => by omega⟩
  case env1 => exact (Env.le_consE rfl (by rfl) Env.le_nil)
  case round1 =>
   rintro k I a w hok hs
   obtain ⟨hk_k, hall⟩ := hok
   refine wp_seq <| St.region <| hs.o (ok_lss .tt .tt) fun hs => wpList_nil <| then_n <| wp_seq ?_
   refine hs.cond .tt (fun hb2 => ?_) (fun hb2 => ?_)
   ·try simp only [B] at hb2
    refine wp_skip <| then_n <| wp_seq <| wp_block <| wp_seq <| St.region <| hs.m fun hs => ?_
    refine hs.o ((by first | exact ok_idxN un48 ty94 .tt .tt (fun _ => by exact hb2) | exact ok_idxM un48 ty94 .tt .tt (fun _ => by exact hb2) | exact ok_idx un48 ty94 .tt .tt (fun _ => by exact hb2))) fun hs => ?_
    refine hs.o ((by first | exact ok_loadA ty94 .tt rfl | exact ok_loadS ty94 .tt rfl)) fun hs => ?_
    refine hs.alloc rfl ty94 zc94 fun b8 I a w hs => hs.s fun hs => ?_
    refine hs.storeB 0 ty94 .tt .tt rfl (by first | rfl | assumption) rfl fun a w hs => ?_
    obtain ⟨I, hs, hf⟩ := hs.freezeBox 0 rfl
    have hs := hs.upd (t := 8) rfl hf; clear hf
    refine wpList_nil <| then_n <| wp_seq <| St.region <| hs.m fun hs => hs.m fun hs => ?_
    refine hs.o ((by first | exact ok_idxN un48 ty94 .tt .tt (fun _ => by omega) | exact ok_idxM un48 ty94 .tt .tt (fun _ => by omega) | exact ok_idx un48 ty94 .tt .tt (fun _ => by omega))) fun hs => ?_
    refine hs.o ((by first | exact ok_loadA ty94 .tt rfl | exact ok_loadS ty94 .tt rfl)) fun hs => ?_
    refine hs.alloc rfl ty94 zc94 fun b9 I a w hs => ?_
    refine hs.storeB 1 ty94 .tt .tt rfl (by first | rfl | assumption) rfl fun a w hs => ?_
    obtain ⟨I, hs, hf⟩ := hs.freezeBox 1 rfl
    have hs := hs.upd (t := 9) rfl hf; clear hf
    refine wpList_nil <| then_n <| wp_seq <| St.region <| hs.m fun hs => ?_
    refine hs.o ((by first | exact ok_loadA ty94 .tt rfl | exact ok_loadS ty94 .tt rfl)) fun hs => ?_
    refine hs.o ((by first | exact ok_loadA ty94 .tt rfl | exact ok_loadS ty94 .tt rfl)) fun hs => ?_
    refine hs.o (ok_callV (hf _ _) .tt (args_cons .tt (args_cons .tt args_nil))) fun hs => hs.o (ok_not .tt) fun hs => wpList_nil <| then_n ?_
    refine hs.cond .tt (fun hb3 => ?_) (fun hb3 => ?_)
    ·replace hb3 := nt hb3
     refine wp_seq <| St.region <| hs.sc fun hs => wpList_nil <| then_n <| wp_ret <| block_r <| then_r <| then_r <| block_r <| then_r <| hs.ret rfl (.cons (.t rfl) ResL.nil) ?_
     exact ret_bool (by unfold pairAll; rw [allN_false (f := fun i => p (elt x i) (elt y i)) hb2 hb3]; simp)
    ·replace hb3 := nf hb3
     refine wp_skip <| block_n <| then_n <| St.region ?_
     refine hs.o (ok_add .tt .c (fun _ => by omega)) fun hs => ?_
     refine hs.m fun hs => wpList_nil <| then_n ?_
     have hs := hs.drop 0
     refine hs.again (k + 1) ?mu1 ?ok1001 (by rfl) ?env1001 (by repeat (first | exact Env.le_rfl | refine Env.le_push rfl ?_))
     case mu1 => omega
     case ok1001 => exact ⟨by omega, allN_next hall hb3⟩
     case env1001 => exact (Env.le_consE rfl (by first | rfl | (congr 1; done)) Env.le_nil)
   ·try simp only [B] at hb2
    refine wp_exit <| then_x <| then_x <| block_hit <| then_n <| wp_seq <| St.region <| hs.sc fun hs => wpList_nil <| then_n <| wp_ret <| hs.ret rfl (.cons (.t rfl) ResL.nil) ?_
    exact ret_bool (by unfold pairAll; rw [allN_true hall (by omega), show decide (x.length = y.length) = true by simp; omega]; rfl)


def leaves (q : Slot) : Bool := q.stand == 2
def calmAt (x : Neck) (i : Nat) : Bool := calm (elt x.servers i)
theorem calm_test (s : Server) : (!s.up || decide (0 < ((s.waits.length : Int) + s.owes.length) + s.knows.length) || hasB leaves s.slots) = !calm s := by
  unfold calm; simp; rfl
def calmHead (s : Server) : Bool := s.up && !decide (0 < ((s.waits.length : Int) + s.owes.length) + s.knows.length)
theorem calm_head (s : Server) : (!s.up || decide (0 < ((s.waits.length : Int) + s.owes.length) + s.knows.length)) = !calmHead s := by unfold calmHead; simp
theorem calm_split (s : Server) : calm s = (calmHead s && allN s.slots.length fun i => !leaves (elt s.slots i)) := by
  rw [← hasB_allN]; rfl
theorem sideR_ok {x : Neck} (h : neckOk x = true) {s : Int} (h0 : 0 ≤ s) (h1 : s ≤ 1) : sideR x s = sideL x s := by
  unfold sideR; rw [h, show inB s 0 1 = true by simp [inB]; omega]; rfl
theorem sideR_len {x : Neck} {s : Int} (h0 : 0 ≤ s) (h1 : s ≤ 1) : (sideR x s).length ≤ 160 := by
  unfold sideR
  split
  · rename_i h
    rw [Bool.and_eq_true] at h
    have ca := chain_len (side_parts h.1 (i := (2 * s).toNat) (by omega)).1
    have cb := chain_len (side_parts h.1 (i := (2 * s + 1).toNat) (by omega)).1
    have := adds_len (elt x.servers (2 * s + 1).toNat).vers (elt x.servers (2 * s).toNat).vers
    unfold sideL; omega
  · simp
theorem same_split (x : Neck) : neckSame x = (((neckOk x && decide (x.radio.length = 0)) && allN x.servers.length (calmAt x)) && pairAll verIs (sideL x 0) (sideL x 1)) := by
  unfold neckSame; rw [pair_same]; rfl
theorem same_split2 (x : Neck) : neckSame x = ((neckOk x && allN x.servers.length (calmAt x)) && (decide (x.radio.length = 0) && pairAll verIs (sideL x 0) (sideL x 1))) := by
  rw [same_split]; ac_rfl
theorem same_no {x : Neck} (h : ¬ ((sideR x 0).length : Int) = (sideR x 1).length ∨ 0 < x.radio.length) : (decide (x.radio.length = 0) && pairAll verIs (sideR x 0) (sideR x 1)) = false := by
  rcases h with h | h
  · have e : decide ((sideR x 0).length = (sideR x 1).length) = false := by rw [decide_eq_false_iff_not]; omega
    unfold pairAll; rw [e]; simp
  · have e : decide (x.radio.length = 0) = false := by rw [decide_eq_false_iff_not]; omega
    rw [e]; rfl
theorem same_yes {x : Neck} (h : ((sideR x 0).length : Int) = (sideR x 1).length ∧ x.radio.length ≤ 0) : (decide (x.radio.length = 0) && pairAll verIs (sideR x 0) (sideR x 1)) = allN (sideR x 0).length fun i => verIs (elt (sideR x 0) i) (elt (sideR x 1) i) := by
  have e : decide ((sideR x 0).length = (sideR x 1).length) = true := by rw [decide_eq_true_eq]; omega
  have e2 : decide (x.radio.length = 0) = true := by rw [decide_eq_true_eq]; omega
  unfold pairAll; rw [e, e2]; simp
theorem radio_zero (n : Nat) : decide (0 < (n : Int)) = !decide (n = 0) := len_pos n

theorem c_impl_NeckSame_1 (q : Slot) :
    Fn Tryz.prog 57 [q.av] (AV.bool (leaves q)) := by
 refine Fn.intro 6 Tryz.func57 rfl Tryz.ntmps57 rfl (by kernel_rfl) (fun W I a hs => ?_)
 refine wp_seq <| St.region <| hs.o (ok_boxP .tt) fun hs => hs.sc fun hs => wpList_nil <| then_n <| wp_seq <| St.region <| hs.o (ok_fieldP fd91_1 rfl .tt) fun hs => hs.o (ok_load1 ty3 .tt) fun hs => hs.o (ok_eqi .tt .c) fun hs => hs.s fun hs => wpList_nil <| then_n <| wp_ret <| hs.ret rfl (.cons (.t rfl) ResL.nil) ?_
 rfl

theorem c_impl_NeckSame_2 (u v : Ver) :
    Fn Tryz.prog 60 [u.av, v.av] (AV.bool (verIs u v)) := by
 refine Fn.intro 8 Tryz.func60 rfl Tryz.ntmps60 rfl (by kernel_rfl) (fun W I a hs => ?_)
 refine wp_seq <| St.region <| hs.o (ok_boxP .tt) fun hs => hs.o (ok_boxP .tt) fun hs => hs.sc fun hs => wpList_nil <| then_n <| wp_seq <| St.region ?_
 refine hs.o ((by first | exact ok_loadA ty94 .tt rfl | exact ok_loadS ty94 .tt rfl)) fun hs => ?_
 refine hs.o ((by first | exact ok_loadA ty94 .tt rfl | exact ok_loadS ty94 .tt rfl)) fun hs => ?_
 refine hs.o (ok_call (c_impl_Ver_same ..) (args_cons .tt (args_cons .tt args_nil))) fun hs => hs.s fun hs => wpList_nil <| then_n <| wp_ret <| hs.ret rfl (.cons (.t rfl) ResL.nil) ?_
 rfl

set_option maxHeartbeats 4000000 in
theorem c_impl_NeckSame (x : Neck) (hf : x.Fit) (hl : x.calls.length ≤ 1048576) :
    Fn Tryz.prog 15 [x.av] (AV.bool (neckSame x)) := by
 refine Fn.intro 51 Tryz.func15 rfl Tryz.ntmps15 rfl (by kernel_rfl) (fun W I a hs => ?_)
 have lens : x.servers.length ≤ 9223372036854775807 ∧ x.radio.length ≤ 9223372036854775807 ∧ x.calls.length ≤ 9223372036854775807 ∧ x.seen.length ≤ 9223372036854775807 := by
    obtain ⟨cs, _, hc⟩ := hs.env 0 _ rfl
    obtain ⟨u1, _, h1, _⟩ := hc.get (i := 1) rfl
    obtain ⟨u2, _, h2, _⟩ := hc.get (i := 2) rfl
    obtain ⟨u3, _, h3, _⟩ := hc.get (i := 3) rfl
    obtain ⟨u4, _, h4, _⟩ := hc.get (i := 4) rfl
    exact ⟨rows_le h1, rows_le h2, rows_le h3, rows_le h4⟩
 refine wp_seq <| St.region <| hs.o (ok_boxP .tt) fun hs => hs.sc fun hs => wpList_nil <| then_n <| wp_seq <| wp_seq <| St.region ?_
 refine hs.o ((by first | exact ok_loadA ty35 .tt rfl | exact ok_loadS ty35 .tt rfl)) fun hs => ?_
 refine hs.o (ok_call (c_impl_NeckOk x hf hl) (args_cons .tt args_nil)) fun hs => hs.o (ok_not .tt) fun hs => hs.m fun hs => hs.q .F (ok_fieldP fd35_2 rfl .tt) fun hs => hs.q .F (ok_load1 ty31 .ag) fun hs => ?_
 refine hs.q .F ((by first | exact ok_lenM un31 .ag | exact ok_len un31 .ag | exact ok_lenV un31 .ag)) fun hs => ?_
 refine hs.q .F (ok_gtr .ag .c) fun hs => ?_
 refine hs.o (ok_or .tt .c .pc) fun hs => wpList_nil <| then_n ?_
 refine hs.cond .tt (fun hb1 => ?_) (fun hb1 => ?_)
 ·rw [radio_zero, ← Bool.not_and] at hb1; replace hb1 := nt hb1
  refine wp_seq <| St.region <| hs.sc fun hs => wpList_nil <| then_n <| wp_ret <| then_r <| hs.ret rfl (.cons (.t rfl) ResL.nil) ?_
  exact ret_bool (by rw [same_split]; rw [hb1]; rfl)
 ·rw [radio_zero, ← Bool.not_and] at hb1; replace hb1 := nf hb1; rw [Bool.and_eq_true] at hb1
  refine wp_skip <| then_n <| wp_seq <| wp_seq <| St.region <| hs.o (ok_fieldP fd35_1 rfl .tt) fun hs => hs.o (ok_load1 ty30 .tt) fun hs => ?_
  refine hs.o ((by first | exact ok_lenM un30 .tt | exact ok_len un30 .tt | exact ok_lenV un30 .tt)) fun hs => ?_
  refine hs.mc fun hs => wpList_nil <| then_n <| wp_block ?_
  refine St.loopS (σ := Nat) (2 :: 4 :: 5 :: 18 :: 19 :: 20 :: 21 :: 22 :: 23 :: 24 :: 25 :: 26 :: 27 :: 28 :: 29 :: 30 :: 31 :: 32 :: 33 :: 34 :: 35 :: 36 :: 37 :: 38 :: 39 :: 40 :: 41 :: 42 :: 43 :: 44 :: 45 :: []) ⟨fun k => [(18, AV.int k)], fun k => [], fun k => k ≤ x.servers.length ∧ ∀ i, i < k → (calmAt x) i = true⟩ (fun k => x.servers.length - k) 0 hs rfl ?ok1 ?env1 ?round1
  case ok1 => exact ⟨Nat.zero_le _, fun i hi => by omega⟩
  case env1 => exact (Env.le_consE rfl (by rfl) Env.le_nil)
  case round1 =>
   rintro k I a w hok hs
   obtain ⟨hk_k, hall⟩ := hok
   refine wp_seq <| St.region <| hs.o (ok_lss .tt .tt) fun hs => wpList_nil <| then_n <| wp_seq ?_
   refine hs.cond .tt (fun hb2 => ?_) (fun hb2 => ?_)
   ·simp only [B] at hb2
    have h4 := (neckOk_server hb1.1 (k := 0) (by omega)).2.1
    obtain ⟨ca, cw, co, ck, cs⟩ := side_parts hb1.1 (i := k) (by omega)
    have l1 := chain_len cw
    have l2 := debts_len co
    have l3 := debts_len ck
    refine wp_skip <| then_n <| wp_seq <| wp_block <| wp_seq <| St.region ?_
    refine hs.o ((by first | exact ok_idxN un30 ty89 .tt .tt (fun _ => by exact hb2) | exact ok_idxM un30 ty89 .tt .tt (fun _ => by exact hb2) | exact ok_idx un30 ty89 .tt .tt (fun _ => by exact hb2))) fun hs => ?_
    refine hs.o ((by first | exact ok_loadA ty89 .tt rfl | exact ok_loadS ty89 .tt rfl)) fun hs => ?_
    refine hs.alloc rfl ty89 zc89 fun b4 I a w hs => ?_
    refine hs.storeB 0 ty89 .tt .tt rfl (by first | rfl | assumption) rfl fun a w hs => ?_
    obtain ⟨I, hs, hf⟩ := hs.freezeBox 0 rfl
    have hs := hs.upd (t := 4) rfl hf; clear hf
    refine wpList_nil <| then_n <| wp_seq <| St.region <| hs.o (ok_fieldP fd89_2 rfl .tt) fun hs => hs.o (ok_load1 ty87 .tt) fun hs => ?_
    refine hs.o (ok_call (c_slices_ContainsFunc_impl_Slot_impl_Slot (elt x.servers k).slots leaves _ (fun q _ => Fn.valF (c_impl_NeckSame_1 q))) (args_cons .r (args_cons .f args_nil))) fun hs => ?_
    refine hs.s fun hs => wpList_nil <| then_n <| wp_seq <| St.region <| hs.o (ok_fieldP fd89_1 rfl .tt) fun hs => hs.o (ok_load1 ty4 .tt) fun hs => hs.o (ok_not .tt) fun hs => hs.m fun hs => hs.q .F (ok_fieldP fd89_4 rfl .tt) fun hs => hs.q .F (ok_load1 ty48 .ag) fun hs => ?_
    refine hs.q .F ((by first | exact ok_lenM un48 .ag | exact ok_len un48 .ag | exact ok_lenV un48 .ag)) fun hs => ?_
    refine hs.q .F (ok_fieldP fd89_5 rfl .tt) fun hs => hs.q .F (ok_load1 ty65 .ag) fun hs => ?_
    refine hs.q .F ((by first | exact ok_lenM un65 .ag | exact ok_len un65 .ag | exact ok_lenV un65 .ag)) fun hs => ?_
    refine hs.q .F (ok_add .ag .ag (fun hg => by omega)) fun hs => ?_
    refine hs.q .F (ok_fieldP fd89_6 rfl .tt) fun hs => hs.q .F (ok_load1 ty65 .ag) fun hs => ?_
    refine hs.q .F ((by first | exact ok_lenM un65 .ag | exact ok_len un65 .ag | exact ok_lenV un65 .ag)) fun hs => ?_
    refine hs.q .F (ok_add .ag .ag (fun hg => by omega)) fun hs => ?_
    refine hs.q .F (ok_gtr .ag .c) fun hs => ?_
    refine hs.o (ok_or .tt .c .pc) fun hs => hs.m fun hs => hs.q .F (ok_move .tt) fun hs => hs.o (ok_or .tt .c .pc) fun hs => wpList_nil <| then_n ?_
    refine hs.cond .tt (fun hb3 => ?_) (fun hb3 => ?_)
    ·rw [calm_test] at hb3; replace hb3 := nt hb3
     refine wp_seq <| St.region <| hs.sc fun hs => wpList_nil <| then_n <| wp_ret <| block_r <| then_r <| then_r <| block_r <| then_r <| hs.ret rfl (.cons (.t rfl) ResL.nil) ?_
     exact ret_bool (by rw [same_split]; rw [allN_false (f := calmAt x) hb2 hb3]; simp)
    ·rw [calm_test] at hb3; replace hb3 := nf hb3
     refine wp_skip <| block_n <| then_n <| St.region ?_
     refine hs.o (ok_add .tt .c (fun _ => by omega)) fun hs => ?_
     refine hs.m fun hs => wpList_nil <| then_n ?_
     have hs := hs.drop 0
     refine hs.again (k + 1) ?mu1 ?ok1001 (by rfl) ?env1001 (by repeat (first | exact Env.le_rfl | refine Env.le_push rfl ?_))
     case mu1 => omega
     case ok1001 => exact ⟨by omega, allN_next hall hb3⟩
     case env1001 => exact (Env.le_consE rfl (by first | rfl | (congr 1; done)) Env.le_nil)
   ·try simp only [B] at hb2
    refine wp_exit <| then_x <| then_x <| block_hit <| then_n <| wp_seq <| hs.dk ?_
    refine .o ((by first | exact ok_loadA ty35 .tt rfl | exact ok_loadS ty35 .tt rfl)) ?_
    refine .o (ok_call (c_impl_Neck_side x 0 hb1.1 (by omega)) (args_cons (.t rfl) (args_cons .c args_nil))) ?_
    refine .o ((by first | exact ok_loadA ty35 .tt rfl | exact ok_loadS ty35 .tt rfl)) ?_
    refine .o (ok_call (c_impl_Neck_side x 1 hb1.1 (by omega)) (args_cons (.t rfl) (args_cons .c args_nil))) ?_
    refine .o (ok_call (c_slices_EqualFunc_impl_Ver_impl_Ver_impl_Ver_impl_Ver (sideL x 0) (sideL x 1) verIs _ (fun u v => Fn.valF (c_impl_NeckSame_2 u v))) (args_cons .r (args_cons .r (args_cons .f args_nil)))) ?_
    refine .o (ok_assign .tt) <| RunK.nil ?_
    intro I a w hs
    refine then_n <| wp_ret <| hs.ret rfl (.cons (.t rfl) ResL.nil) ?_
    exact ret_bool (by rw [same_split]; rw [hb1.1, hb1.2, allN_true hall (by omega)]; rfl)

set_option maxHeartbeats 4000000 in
theorem c_spec_NeckSame (x : Neck) (hgl : ∀ q ∈ x.calls, q.got.length ≤ 1048576) :
    Fn Tryz.prog 14 [x.av] (AV.bool (neckSame x)) := by
 refine Fn.intro 104 Tryz.func14 rfl Tryz.ntmps14 rfl (by kernel_rfl) (fun W I a hs => ?_)
 have lens : x.servers.length ≤ 9223372036854775807 ∧ x.radio.length ≤ 9223372036854775807 ∧ x.calls.length ≤ 9223372036854775807 ∧ x.seen.length ≤ 9223372036854775807 := by
    obtain ⟨cs, _, hc⟩ := hs.env 0 _ rfl
    obtain ⟨u1, _, h1, _⟩ := hc.get (i := 1) rfl
    obtain ⟨u2, _, h2, _⟩ := hc.get (i := 2) rfl
    obtain ⟨u3, _, h3, _⟩ := hc.get (i := 3) rfl
    obtain ⟨u4, _, h4, _⟩ := hc.get (i := 4) rfl
    exact ⟨rows_le h1, rows_le h2, rows_le h3, rows_le h4⟩
 refine wp_seq <| St.region <| hs.o (ok_boxP .tt) fun hs => hs.sc fun hs => wpList_nil <| then_n <| wp_seq <| wp_seq <| St.region ?_
 refine hs.o ((by first | exact ok_loadA ty35 .tt rfl | exact ok_loadS ty35 .tt rfl)) fun hs => ?_
 refine hs.o (ok_call (c_spec_NeckOk x hgl) (args_cons .tt args_nil)) fun hs => hs.o (ok_not .tt) fun hs => wpList_nil <| then_n ?_
 refine hs.cond .tt (fun hb1 => ?_) (fun hb1 => ?_)
 ·replace hb1 := nt hb1
  refine wp_seq <| St.region <| hs.sc fun hs => wpList_nil <| then_n <| wp_ret <| then_r <| hs.ret rfl (.cons (.t rfl) ResL.nil) ?_
  exact ret_bool (by rw [same_split]; rw [hb1]; rfl)
 ·replace hb1 := nf hb1
  refine wp_skip <| then_n <| wp_seq <| wp_seq <| St.region <| hs.sc fun hs => wpList_nil <| then_n <| wp_block ?_
  refine St.loopS (σ := Nat) (2 :: 3 :: 4 :: 11 :: 12 :: 13 :: 14 :: 15 :: 16 :: 17 :: 18 :: 19 :: 20 :: 21 :: 22 :: 23 :: 24 :: 25 :: 26 :: 27 :: 28 :: 29 :: 30 :: 31 :: 32 :: 33 :: 34 :: 35 :: 36 :: 37 :: 38 :: 39 :: 40 :: 41 :: 42 :: 43 :: 44 :: 45 :: 46 :: 47 :: 48 :: 49 :: 50 :: 51 :: 52 :: 53 :: 54 :: 55 :: 56 :: 57 :: 58 :: 59 :: 60 :: 61 :: 62 :: 63 :: 64 :: 65 :: 66 :: 67 :: 68 :: 69 :: 70 :: 71 :: 72 :: []) ⟨fun k => [(3, AV.int k)], fun k => [], fun k => k ≤ x.servers.length ∧ ∀ i, i < k → (calmAt x) i = true⟩ (fun k => x.servers.length - k) 0 hs rfl ?ok1 ?env1 ?round1
  case ok1 => exact ⟨Nat.zero_le _, fun i hi => by omega⟩
  case env1 => exact (Env.le_consE rfl (by rfl) Env.le_nil)
  case round1 =>
   rintro k I a w hok hs
   obtain ⟨hk_k, hall⟩ := hok
   refine wp_seq <| wp_seq <| St.region <| hs.m fun hs => hs.o (ok_fieldP fd35_1 rfl .tt) fun hs => hs.o (ok_load1 ty30 .tt) fun hs => ?_
   refine hs.o ((by first | exact ok_lenM un30 .tt | exact ok_len un30 .tt | exact ok_lenV un30 .tt)) fun hs => ?_
   refine hs.o (ok_lss .tt .tt) fun hs => wpList_nil <| then_n ?_
   refine hs.cond .tt (fun hb2 => ?_) (fun hb2 => ?_)
   ·simp only [B] at hb2
    have h4 := (neckOk_server hb1 (k := 0) (by omega)).2.1
    obtain ⟨ca, cw, co, ck, cs⟩ := side_parts hb1 (i := k) (by omega)
    have l1 := chain_len cw
    have l2 := debts_len co
    have l3 := debts_len ck
    refine wp_skip <| then_n <| wp_seq <| wp_block <| wp_seq <| wp_seq <| hs.dk <| .o (ok_fieldP fd35_1 rfl .tt) <| .o (ok_load1 ty30 .tt) <| .o (ok_move .tt) ?_
    refine .o ((by first | exact ok_idxN un30 ty89 .tt .tt (fun _ => by exact hb2) | exact ok_idxM un30 ty89 .tt .tt (fun _ => by exact hb2) | exact ok_idx un30 ty89 .tt .tt (fun _ => by exact hb2))) ?_
    refine .o (ok_fieldP fd89_1 rfl .tt) <| .o (ok_load1 ty4 .tt) <| .o (ok_not .tt) <| .o (ok_move .tt) <| .q .F (ok_fieldP fd35_1 rfl .tt) <| .q .F (ok_load1 ty30 .ag) ?_
    refine .q .F (ok_move .tt) ?_
    refine .q .F ((by first | exact ok_idxN un30 ty89 .ag .ag (fun hg => by exact hb2) | exact ok_idxM un30 ty89 .ag .ag (fun hg => by exact hb2) | exact ok_idx un30 ty89 .ag .ag (fun hg => by exact hb2))) ?_
    refine .q .F (ok_fieldP fd89_4 rfl .ag) ?_
    refine .q .F (ok_load1 ty48 .ag) ?_
    refine .q .F ((by first | exact ok_lenM un48 .ag | exact ok_len un48 .ag | exact ok_lenV un48 .ag)) ?_
    refine .q .F (ok_fieldP fd35_1 rfl .tt) <| .q .F (ok_load1 ty30 .ag) ?_
    refine .q .F (ok_move .tt) ?_
    refine .q .F ((by first | exact ok_idxN un30 ty89 .ag .ag (fun hg => by exact hb2) | exact ok_idxM un30 ty89 .ag .ag (fun hg => by exact hb2) | exact ok_idx un30 ty89 .ag .ag (fun hg => by exact hb2))) ?_
    refine .q .F (ok_fieldP fd89_5 rfl .ag) ?_
    refine .q .F (ok_load1 ty65 .ag) ?_
    refine .q .F ((by first | exact ok_lenM un65 .ag | exact ok_len un65 .ag | exact ok_lenV un65 .ag)) ?_
    refine .q .F (ok_add .ag .ag (fun hg => by omega)) ?_
    refine .q .F (ok_fieldP fd35_1 rfl .tt) <| .q .F (ok_load1 ty30 .ag) ?_
    refine .q .F (ok_move .tt) ?_
    refine .q .F ((by first | exact ok_idxN un30 ty89 .ag .ag (fun hg => by exact hb2) | exact ok_idxM un30 ty89 .ag .ag (fun hg => by exact hb2) | exact ok_idx un30 ty89 .ag .ag (fun hg => by exact hb2))) ?_
    refine .q .F (ok_fieldP fd89_6 rfl .ag) ?_
    refine .q .F (ok_load1 ty65 .ag) ?_
    refine .q .F ((by first | exact ok_lenM un65 .ag | exact ok_len un65 .ag | exact ok_lenV un65 .ag)) ?_
    refine .q .F (ok_add .ag .ag (fun hg => by omega)) ?_
    refine .q .F (ok_gtr .ag .c) ?_
    refine .o (ok_or .tt .c .pc) <| RunK.nil ?_
    intro I a w hs
    refine then_n ?_
    refine hs.cond .tt (fun hb3 => ?_) (fun hb3 => ?_)
    ·rw [calm_head] at hb3; replace hb3 := nt hb3
     refine wp_seq <| St.region <| hs.sc fun hs => wpList_nil <| then_n <| wp_ret <| then_r <| block_r <| then_r <| then_r <| block_r <| then_r <| hs.ret rfl (.cons (.t rfl) ResL.nil) ?_
     exact ret_bool (by rw [same_split]; rw [allN_false (f := calmAt x) hb2 (by show calm _ = false; rw [calm_split, hb3]; rfl)]; simp)
    ·rw [calm_head] at hb3; replace hb3 := nf hb3
     refine wp_skip <| then_n <| wp_seq <| St.region <| hs.sc fun hs => wpList_nil <| then_n <| wp_block ?_
     refine St.loopS (σ := Nat) (2 :: 4 :: 51 :: 52 :: 53 :: 54 :: 55 :: 56 :: 57 :: 58 :: 59 :: 60 :: 61 :: 62 :: 63 :: 64 :: 65 :: 66 :: 67 :: 68 :: 69 :: 70 :: 71 :: 72 :: []) ⟨fun k2 => [(4, AV.int k2)], fun k2 => [], fun k2 => k2 ≤ (elt x.servers k).slots.length ∧ ∀ i, i < k2 → (fun i => !leaves (elt (elt x.servers k).slots i)) i = true⟩ (fun k2 => (elt x.servers k).slots.length - k2) 0 hs rfl ?ok2 ?env2 ?round2
     case ok2 => exact ⟨Nat.zero_le _, fun i hi => by omega⟩
     case env2 => exact (Env.le_consE rfl (by rfl) Env.le_nil)
     case round2 =>
      rintro k2 I a w hok hs
      obtain ⟨hk_k2, hall2⟩ := hok
      refine wp_seq <| wp_seq <| St.region <| hs.m fun hs => hs.o (ok_fieldP fd35_1 rfl .tt) fun hs => hs.o (ok_load1 ty30 .tt) fun hs => hs.m fun hs => ?_
      refine hs.o ((by first | exact ok_idxN un30 ty89 .tt .tt (fun _ => by exact hb2) | exact ok_idxM un30 ty89 .tt .tt (fun _ => by exact hb2) | exact ok_idx un30 ty89 .tt .tt (fun _ => by exact hb2))) fun hs => ?_
      refine hs.o (ok_fieldP fd89_2 rfl .tt) fun hs => hs.o (ok_load1 ty87 .tt) fun hs => ?_
      refine hs.o ((by first | exact ok_lenM un87 .tt | exact ok_len un87 .tt | exact ok_lenV un87 .tt)) fun hs => ?_
      refine hs.o (ok_lss .tt .tt) fun hs => wpList_nil <| then_n ?_
      refine hs.cond .tt (fun hb4 => ?_) (fun hb4 => ?_)
      ·try simp only [B] at hb4
       refine wp_skip <| then_n <| wp_seq <| wp_block <| wp_seq <| St.region <| hs.o (ok_fieldP fd35_1 rfl .tt) fun hs => hs.o (ok_load1 ty30 .tt) fun hs => hs.m fun hs => ?_
       refine hs.o ((by first | exact ok_idxN un30 ty89 .tt .tt (fun _ => by exact hb2) | exact ok_idxM un30 ty89 .tt .tt (fun _ => by exact hb2) | exact ok_idx un30 ty89 .tt .tt (fun _ => by exact hb2))) fun hs => ?_
       refine hs.o (ok_fieldP fd89_2 rfl .tt) fun hs => hs.o (ok_load1 ty87 .tt) fun hs => hs.m fun hs => ?_
       refine hs.o ((by first | exact ok_idxN un87 ty91 .tt .tt (fun _ => by exact hb4) | exact ok_idxM un87 ty91 .tt .tt (fun _ => by exact hb4) | exact ok_idx un87 ty91 .tt .tt (fun _ => by exact hb4))) fun hs => ?_
       refine hs.o (ok_fieldP fd91_1 rfl .tt) fun hs => hs.o (ok_load1 ty3 .tt) fun hs => hs.o (ok_eqi .tt .c) fun hs => wpList_nil <| then_n ?_
       refine hs.cond .tt (fun hb5 => ?_) (fun hb5 => ?_)
       ·change leaves (elt (elt x.servers k).slots k2) = true at hb5
        refine wp_seq <| St.region <| hs.sc fun hs => wpList_nil <| then_n <| wp_ret <| block_r <| then_r <| then_r <| block_r <| block_r <| then_r <| then_r <| block_r <| then_r <| hs.ret rfl (.cons (.t rfl) ResL.nil) ?_
        exact ret_bool (by rw [same_split]; rw [allN_false (f := calmAt x) hb2 (by show calm _ = false; rw [calm_split, allN_false (f := fun i => !leaves (elt (elt x.servers k).slots i)) hb4 (by rw [hb5]; rfl)]; simp)]; simp)
       ·change leaves (elt (elt x.servers k).slots k2) = false at hb5
        refine wp_skip <| block_n <| then_n <| St.region <| hs.m fun hs => ?_
        refine hs.o (ok_add .tt .c (fun _ => by omega)) fun hs => ?_
        refine hs.s fun hs => wpList_nil <| then_n ?_
        refine hs.again (k2 + 1) ?mu1 ?ok1001 (by rfl) ?env1001 (by repeat (first | exact Env.le_rfl | refine Env.le_push rfl ?_))
        case mu1 => omega
        case ok1001 => exact ⟨by omega, allN_next hall2 (by rw [hb5]; rfl)⟩
        case env1001 => exact (Env.le_consE rfl (by first | rfl | (congr 1; done)) Env.le_nil)
      ·try simp only [B] at hb4
       refine wp_exit <| then_x <| then_x <| block_hit <| block_n <| then_n <| St.region <| hs.m fun hs => ?_
       refine hs.o (ok_add .tt .c (fun _ => by omega)) fun hs => ?_
       refine hs.s fun hs => wpList_nil <| then_n ?_
       refine hs.again (k + 1) ?mu2 ?ok1002 (by rfl) ?env1002 (by repeat (first | exact Env.le_rfl | refine Env.le_push rfl ?_))
       case mu2 => omega
       case ok1002 => exact ⟨by omega, allN_next hall (by show calm _ = true; rw [calm_split, hb3, allN_true hall2 (by omega)]; rfl)⟩
       case env1002 => exact (Env.le_consE rfl (by first | rfl | (congr 1; done)) Env.le_nil)
   ·try simp only [B] at hb2
    refine wp_exit <| then_x <| then_x <| block_hit <| then_n <| wp_seq <| St.region ?_
    refine hs.o ((by first | exact ok_loadA ty35 .tt rfl | exact ok_loadS ty35 .tt rfl)) fun hs => ?_
    refine hs.o (ok_call (c_spec_NeckSide x 0 hgl) (args_cons .tt (args_cons .c args_nil))) fun hs => hs.s fun hs => wpList_nil <| then_n <| wp_seq <| St.region ?_
    refine hs.o ((by first | exact ok_loadA ty35 .tt rfl | exact ok_loadS ty35 .tt rfl)) fun hs => ?_
    refine hs.o (ok_call (c_spec_NeckSide x 1 hgl) (args_cons .tt (args_cons .c args_nil))) fun hs => hs.s fun hs => wpList_nil <| then_n <| wp_seq <| wp_seq <| St.region <| hs.m fun hs => ?_
    refine hs.o ((by first | exact ok_lenM un48 .tt | exact ok_len un48 .tt | exact ok_lenV un48 .tt)) fun hs => ?_
    refine hs.m fun hs => ?_
    refine hs.o ((by first | exact ok_lenM un48 .tt | exact ok_len un48 .tt | exact ok_lenV un48 .tt)) fun hs => ?_
    refine hs.o (ok_nei .tt .tt) fun hs => hs.m fun hs => hs.q .F (ok_fieldP fd35_2 rfl .tt) fun hs => hs.q .F (ok_load1 ty31 .ag) fun hs => ?_
    refine hs.q .F ((by first | exact ok_lenM un31 .ag | exact ok_len un31 .ag | exact ok_lenV un31 .ag)) fun hs => ?_
    refine hs.q .F (ok_gtr .ag .c) fun hs => ?_
    refine hs.o (ok_or .tt .c .pc) fun hs => wpList_nil <| then_n ?_
    refine hs.cond .tt (fun hb6 => ?_) (fun hb6 => ?_)
    ·try simp only [B] at hb6
     refine wp_seq <| St.region <| hs.sc fun hs => wpList_nil <| then_n <| wp_ret <| then_r <| hs.ret rfl (.cons (.t rfl) ResL.nil) ?_
     exact ret_bool (by rw [same_split2, ← sideR_ok hb1 (s := 0) (by omega) (by omega), ← sideR_ok hb1 (s := 1) (by omega) (by omega), same_no (by simpa using hb6)]; simp)
    ·try simp only [B] at hb6
     refine wp_skip <| then_n <| wp_seq <| wp_seq <| St.region <| hs.sc fun hs => wpList_nil <| then_n <| wp_block ?_
     refine St.loopS (σ := Nat) (2 :: 7 :: 88 :: 89 :: 90 :: 91 :: 92 :: 93 :: 94 :: 95 :: 96 :: 97 :: 98 :: 99 :: 100 :: 101 :: 102 :: 103 :: []) ⟨fun k3 => [(7, AV.int k3)], fun k3 => [], fun k3 => k3 ≤ (sideR x 0).length ∧ ∀ i, i < k3 → (fun i => verIs (elt (sideR x 0) i) (elt (sideR x 1) i)) i = true⟩ (fun k3 => (sideR x 0).length - k3) 0 hs rfl ?ok3 ?env3 ?round3
     case ok3 => exact ⟨Nat.zero_le _, fun i hi => by omega⟩
     case env3 => exact (Env.le_consE rfl (by rfl) Env.le_nil)
     case round3 =>
      rintro k3 I a w hok hs
      obtain ⟨hk_k3, hall3⟩ := hok
      refine wp_seq <| wp_seq <| St.region <| hs.m fun hs => hs.m fun hs => ?_
      refine hs.o ((by first | exact ok_lenM un48 .tt | exact ok_len un48 .tt | exact ok_lenV un48 .tt)) fun hs => ?_
      refine hs.o (ok_lss .tt .tt) fun hs => wpList_nil <| then_n ?_
      refine hs.cond .tt (fun hb7 => ?_) (fun hb7 => ?_)
      ·try simp only [B] at hb7
       refine wp_skip <| then_n <| wp_seq <| wp_block <| wp_seq <| hs.dk <| .o (ok_move .tt) <| .o (ok_move .tt) ?_
       refine .o ((by first | exact ok_idxN un48 ty94 .tt .tt (fun _ => by exact hb7) | exact ok_idxM un48 ty94 .tt .tt (fun _ => by exact hb7) | exact ok_idx un48 ty94 .tt .tt (fun _ => by exact hb7))) ?_
       refine .o ((by first | exact ok_loadA ty94 .tt rfl | exact ok_loadS ty94 .tt rfl)) ?_
       refine .o (ok_move .tt) <| .o (ok_move .tt) ?_
       refine .o ((by first | exact ok_idxN un48 ty94 .tt .tt (fun _ => by omega) | exact ok_idxM un48 ty94 .tt .tt (fun _ => by omega) | exact ok_idx un48 ty94 .tt .tt (fun _ => by omega))) ?_
       refine .o ((by first | exact ok_loadA ty94 .tt rfl | exact ok_loadS ty94 .tt rfl)) ?_
       refine .o (ok_call (c_spec_l43Same ..) (args_cons .tt (args_cons .tt args_nil))) <| .o (ok_not .tt) <| RunK.nil ?_
       intro I a w hs
       refine then_n ?_
       refine hs.cond .tt (fun hb8 => ?_) (fun hb8 => ?_)
       ·replace hb8 := nt hb8
        refine wp_seq <| St.region <| hs.sc fun hs => wpList_nil <| then_n <| wp_ret <| block_r <| then_r <| then_r <| block_r <| then_r <| hs.ret rfl (.cons (.t rfl) ResL.nil) ?_
        exact ret_bool (by rw [same_split2, ← sideR_ok hb1 (s := 0) (by omega) (by omega), ← sideR_ok hb1 (s := 1) (by omega) (by omega), same_yes (by simpa using hb6), allN_false (f := fun i => verIs (elt (sideR x 0) i) (elt (sideR x 1) i)) hb7 hb8]; simp)
       ·replace hb8 := nf hb8
        refine wp_skip <| block_n <| then_n <| St.region <| hs.m fun hs => ?_
        refine hs.o (ok_add .tt .c (fun _ => by have := sideR_len (x := x) (s := 0) (by omega) (by omega); omega)) fun hs => ?_
        refine hs.s fun hs => wpList_nil <| then_n ?_
        refine hs.again (k3 + 1) ?mu3 ?ok1003 (by rfl) ?env1003 (by repeat (first | exact Env.le_rfl | refine Env.le_push rfl ?_))
        case mu3 => omega
        case ok1003 => exact ⟨by omega, allN_next hall3 hb8⟩
        case env1003 => exact (Env.le_consE rfl (by first | rfl | (congr 1; done)) Env.le_nil)
      ·try simp only [B] at hb7
       refine wp_exit <| then_x <| then_x <| block_hit <| then_n <| wp_seq <| St.region <| hs.sc fun hs => wpList_nil <| then_n <| wp_ret <| hs.ret rfl (.cons (.t rfl) ResL.nil) ?_
       exact ret_bool (by rw [same_split2, ← sideR_ok hb1 (s := 0) (by omega) (by omega), ← sideR_ok hb1 (s := 1) (by omega) (by omega), same_yes (by simpa using hb6), hb1, allN_true hall (by omega), allN_true hall3 (by omega)]; rfl)

end Go.Proofs.YtlppgilifnkapaaGreat
