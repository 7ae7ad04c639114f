/- Walks: the reference of what is safe, part by part. -/
import Derived.Test.YtlppgilifnkapaaGreatSide2
import Derived.Test.YtlppgilifnkapaaGreatDraw3
set_option linter.unusedVariables false
set_option linter.unusedSimpArgs false
set_option maxRecDepth 100000
namespace Go.Proofs.YtlppgilifnkapaaGreat
open Go Go.RowKit


def atAt (l : List Ver) (ds : List Dep) (k : Nat) : Bool := decide (0 ≤ placeOf l (elt ds k))

theorem c_spec_l43Closed (l : List Ver) :
    Fn Tryz.prog 64 [versAV l] (AV.bool (closed2 l)) := by
 refine Fn.intro 48 Tryz.func64 rfl Tryz.ntmps64 rfl (by kernel_rfl) (fun W I a hs => ?_)
 have hle := hs.lenleM (t := 0) rfl
 refine wp_seq <| St.region <| hs.sc fun hs => wpList_nil <| then_n <| wp_seq <| wp_seq <| St.region <| hs.sc fun hs => wpList_nil <| then_n <| wp_block ?_
 refine St.loopS (σ := Nat) (2 :: 3 :: 4 :: 5 :: 6 :: 7 :: 8 :: 9 :: 10 :: 11 :: 12 :: 13 :: 14 :: 15 :: 16 :: 17 :: 18 :: 19 :: 20 :: 21 :: 22 :: 23 :: 24 :: 25 :: 26 :: 27 :: 28 :: 29 :: 30 :: 31 :: 32 :: 33 :: 34 :: 35 :: 36 :: 37 :: 38 :: 39 :: 40 :: 41 :: 42 :: 43 :: 44 :: 45 :: 46 :: 47 :: []) ⟨fun k => [(3, AV.int k)], fun k => [], fun k => k ≤ l.length ∧ ∀ i, i < k → (fun i => atAll l (elt l i).deps) i = true⟩ (fun k => l.length - k) 0 hs rfl ?ok1 ?env1 ?round1
 case ok1 => exact ⟨Nat.zero_le _, fun i hi => by omega⟩
 case env1 => exact (Env.le_consE rfl (by rfl) Env.le_nil)
 case round1 =>
  rintro k I a w hok hs
  obtain ⟨hk_k, hall⟩ := hok
  refine wp_seq <| wp_seq <| St.region <| hs.m fun hs => hs.m fun hs => ?_
  refine hs.o ((by first | exact ok_lenM un48 .tt | exact ok_len un48 .tt | exact ok_lenV un48 .tt)) fun hs => ?_
  refine hs.o (ok_lss .tt .tt) fun hs => wpList_nil <| then_n ?_
  refine hs.cond .tt (fun hb1 => ?_) (fun hb1 => ?_)
  ·try simp only [B] at hb1
   refine wp_skip <| then_n <| wp_seq <| wp_block <| wp_seq <| St.region <| hs.sc fun hs => wpList_nil <| then_n <| wp_block ?_
   refine St.loopS (σ := Nat) (2 :: 4 :: 5 :: 6 :: 13 :: 14 :: 15 :: 16 :: 17 :: 18 :: 19 :: 20 :: 21 :: 22 :: 23 :: 24 :: 25 :: 26 :: 27 :: 28 :: 29 :: 30 :: 31 :: 32 :: 33 :: 34 :: 35 :: 36 :: 37 :: 38 :: 39 :: 40 :: 41 :: 42 :: 43 :: 44 :: 45 :: 46 :: 47 :: []) ⟨fun k2 => [(4, AV.int k2)], fun k2 => [], fun k2 => k2 ≤ (elt l k).deps.length ∧ ∀ i, i < k2 → (atAt l (elt l k).deps) i = true⟩ (fun k2 => (elt l k).deps.length - k2) 0 hs rfl ?ok2 ?env2 ?round2
   case ok2 => exact ⟨Nat.zero_le _, fun i hi => by omega⟩
   case env2 => exact (Env.le_consE rfl (by rfl) Env.le_nil)
   case round2 =>
    rintro k2 I a w hok hs
    obtain ⟨hk_k2, hall2⟩ := hok
    refine wp_seq <| wp_seq <| St.region <| hs.m fun hs => hs.m fun hs => hs.m fun hs => ?_
    refine hs.o ((by first | exact ok_idxN un48 ty94 .tt .tt (fun _ => by exact hb1) | exact ok_idxM un48 ty94 .tt .tt (fun _ => by exact hb1) | exact ok_idx un48 ty94 .tt .tt (fun _ => by exact hb1))) fun hs => ?_
    refine hs.o (ok_fieldP fd94_5 rfl .tt) fun hs => hs.o (ok_load1 ty65 .tt) fun hs => ?_
    refine hs.o ((by first | exact ok_lenM un65 .tt | exact ok_len un65 .tt | exact ok_lenV un65 .tt)) fun hs => ?_
    refine hs.o (ok_lss .tt .tt) fun hs => wpList_nil <| then_n ?_
    refine hs.cond .tt (fun hb2 => ?_) (fun hb2 => ?_)
    ·try simp only [B] at hb2
     refine wp_skip <| then_n <| wp_seq <| wp_block <| wp_seq ?_
     have hs := hs.ownGone
     refine hs.drawD [([], none), ([], none), ([], none), ([], none), ([], none), ([], none), ([], none), ([], none), ([], none), ([], none), ([], none), ([], none), ([], none), ([], none), ([], none), ([], none), ([], none), ([], none), ([], none), ([], none), ([], none), ([], none), ([], none), ([0], some (0, [5])), ([0], some (0, [5])), ([], none)] (by kernel_rfl) (by kernel_rfl) rfl ?_
     refine RunD.op rfl rfl rfl (fun F a => ok_move .tt) <| RunD.op rfl rfl rfl (fun F a => ok_move .tt) <| RunD.op rfl rfl rfl (fun F a => ok_move .tt) ?_
     refine RunD.op rfl rfl rfl (fun F a => (by first | exact ok_idxN un48 ty94 .tt .tt (fun _ => by exact hb1) | exact ok_idxM un48 ty94 .tt .tt (fun _ => by exact hb1) | exact ok_idx un48 ty94 .tt .tt (fun _ => by exact hb1))) ?_
     refine RunD.op rfl rfl rfl (fun F a => ok_fieldP fd94_5 rfl .tt) <| RunD.op rfl rfl rfl (fun F a => ok_load1 ty65 .tt) <| RunD.op rfl rfl rfl (fun F a => ok_move .tt) ?_
     refine RunD.op rfl rfl rfl (fun F a => (by first | exact ok_idxN un65 ty74 .tt .tt (fun _ => by exact hb2) | exact ok_idxM un65 ty74 .tt .tt (fun _ => by exact hb2) | exact ok_idx un65 ty74 .tt .tt (fun _ => by exact hb2))) ?_
     refine RunD.op rfl rfl rfl (fun F a => ok_fieldP fd74_0 rfl .tt) <| RunD.op rfl rfl rfl (fun F a => ok_load1 ty3 .tt) <| RunD.op rfl rfl rfl (fun F a => ok_move .tt) <| RunD.op rfl rfl rfl (fun F a => ok_move .tt) ?_
     refine RunD.op rfl rfl rfl (fun F a => (by first | exact ok_idxN un48 ty94 .tt .tt (fun _ => by exact hb1) | exact ok_idxM un48 ty94 .tt .tt (fun _ => by exact hb1) | exact ok_idx un48 ty94 .tt .tt (fun _ => by exact hb1))) ?_
     refine RunD.op rfl rfl rfl (fun F a => ok_fieldP fd94_5 rfl .tt) <| RunD.op rfl rfl rfl (fun F a => ok_load1 ty65 .tt) <| RunD.op rfl rfl rfl (fun F a => ok_move .tt) ?_
     refine RunD.op rfl rfl rfl (fun F a => (by first | exact ok_idxN un65 ty74 .tt .tt (fun _ => by exact hb2) | exact ok_idxM un65 ty74 .tt .tt (fun _ => by exact hb2) | exact ok_idx un65 ty74 .tt .tt (fun _ => by exact hb2))) ?_
     refine RunD.op rfl rfl rfl (fun F a => ok_fieldP fd74_1 rfl .tt) ?_
     refine RunD.op rfl rfl rfl (fun F a => (by first | exact ok_loadA ty67 .tt rfl | exact ok_loadS ty67 .tt rfl)) ?_
     refine RunD.op rfl rfl rfl (fun F a => ok_call (c_spec_l43At ..) (args_cons .r (args_cons .tt (args_cons .tt args_nil)))) ?_
     refine RunD.op rfl rfl rfl (fun F a => ok_move .tt) <| RunD.op rfl rfl rfl (fun F a => ok_extract .tt rfl) <| RunD.op rfl rfl rfl (fun F a => ok_extract .tt rfl) <| RunD.alloc 0 rfl rfl ty94 zc94 <| RunD.storeN 0 rfl ty94 rfl .tt rfl rfl <| RunD.op rfl rfl rfl (fun F a => ok_assign .tt) <| RunD.nil ?_
     intro I a w hs
     obtain ⟨b5, hs⟩ := hs.openAt (d := 5) 0 rfl rfl
     obtain ⟨I, hs, hf⟩ := hs.freezeBox 0 rfl
     have hs := hs.upd (t := 5) rfl hf; clear hf
     refine then_n <| wp_seq <| St.region <| hs.m fun hs => hs.o (ok_not .tt) fun hs => wpList_nil <| then_n ?_
     refine hs.cond .tt (fun hb3 => ?_) (fun hb3 => ?_)
     ·simp only [B] at hb3; change (atV l (elt (elt l k).deps k2)).isSome = false at hb3; rw [atV_some] at hb3
      refine wp_seq <| St.region <| hs.sc fun hs => wpList_nil <| then_n <| wp_ret <| block_r <| then_r <| then_r <| block_r <| block_r <| then_r <| then_r <| block_r <| then_r <| hs.ret rfl (.cons (.t rfl) ResL.nil) ?_
      exact ret_bool (by unfold closed2; rw [allN_false (f := fun i => atAll l (elt l i).deps) hb1 (allN_false (f := atAt l (elt l k).deps) hb2 hb3)])
     ·simp only [B] at hb3; change (atV l (elt (elt l k).deps k2)).isSome = true at hb3; rw [atV_some] at hb3
      refine wp_skip <| block_n <| then_n <| St.region <| hs.m fun hs => ?_
      have hld := hs.lenleM (t := 18) rfl
      refine hs.o (ok_add .tt .c (fun _ => by omega)) fun hs => ?_
      refine hs.s fun hs => wpList_nil <| then_n ?_
      have hs := hs.drop 0
      refine hs.again (k2 + 1) ?mu1 ?ok1001 (by rfl) ?env1001 (by repeat (first | exact Env.le_rfl | refine Env.le_push rfl ?_))
      case mu1 => omega
      case ok1001 => exact ⟨by omega, allN_next hall2 hb3⟩
      case env1001 => exact (Env.le_consE rfl (by first | rfl | (congr 1; done)) Env.le_nil)
    ·try simp only [B] at hb2
     refine wp_exit <| then_x <| then_x <| block_hit <| block_n <| then_n <| St.region <| hs.m fun hs => ?_
     refine hs.o (ok_add .tt .c (fun _ => by omega)) fun hs => ?_
     refine hs.s fun hs => wpList_nil <| then_n ?_
     refine hs.again (k + 1) ?mu2 ?ok1002 (by rfl) ?env1002 (by repeat (first | exact Env.le_rfl | refine Env.le_push rfl ?_))
     case mu2 => omega
     case ok1002 => exact ⟨by omega, allN_next hall (allN_true hall2 (by omega))⟩
     case env1002 => exact (Env.le_consE rfl (by first | rfl | (congr 1; done)) Env.le_nil)
  ·try simp only [B] at hb1
   refine wp_exit <| then_x <| then_x <| block_hit <| then_n <| wp_seq <| St.region <| hs.sc fun hs => wpList_nil <| then_n <| wp_ret <| hs.ret rfl (.cons (.t rfl) ResL.nil) ?_
   exact ret_bool (allN_true hall (by omega)).symm

theorem c_spec_l43Once (l : List Ver) :
    Fn Tryz.prog 65 [versAV l] (AV.bool (once2 l)) := by
 refine Fn.intro 40 Tryz.func65 rfl Tryz.ntmps65 rfl (by kernel_rfl) (fun W I a hs => ?_)
 have hle := hs.lenleM (t := 0) rfl
 refine wp_seq <| St.region <| hs.sc fun hs => wpList_nil <| then_n <| wp_seq <| wp_seq <| St.region <| hs.sc fun hs => wpList_nil <| then_n <| wp_block ?_
 refine St.loopS (σ := Nat) (2 :: 3 :: 4 :: 5 :: 6 :: 7 :: 8 :: 9 :: 10 :: 11 :: 12 :: 13 :: 14 :: 15 :: 16 :: 17 :: 18 :: 19 :: 20 :: 21 :: 22 :: 23 :: 24 :: 25 :: 26 :: 27 :: 28 :: 29 :: 30 :: 31 :: 32 :: 33 :: 34 :: 35 :: 36 :: 37 :: 38 :: 39 :: []) ⟨fun k => [(3, AV.int k)], fun k => [], fun k => k ≤ l.length ∧ ∀ i, i < k → (fun i => allN i fun j => !sameCall (elt l i) (elt l j)) i = true⟩ (fun k => l.length - k) 0 hs rfl ?ok1 ?env1 ?round1
 case ok1 => exact ⟨Nat.zero_le _, fun i hi => by omega⟩
 case env1 => exact (Env.le_consE rfl (by rfl) Env.le_nil)
 case round1 =>
  rintro k I a w hok hs
  obtain ⟨hk_k, hall⟩ := hok
  refine wp_seq <| wp_seq <| St.region <| hs.m fun hs => hs.m fun hs => ?_
  refine hs.o ((by first | exact ok_lenM un48 .tt | exact ok_len un48 .tt | exact ok_lenV un48 .tt)) fun hs => ?_
  refine hs.o (ok_lss .tt .tt) fun hs => wpList_nil <| then_n ?_
  refine hs.cond .tt (fun hb1 => ?_) (fun hb1 => ?_)
  ·try simp only [B] at hb1
   refine wp_skip <| then_n <| wp_seq <| wp_block <| wp_seq <| St.region <| hs.sc fun hs => wpList_nil <| then_n <| wp_block ?_
   refine St.loopS (σ := Nat) (2 :: 4 :: 11 :: 12 :: 13 :: 14 :: 15 :: 16 :: 17 :: 18 :: 19 :: 20 :: 21 :: 22 :: 23 :: 24 :: 25 :: 26 :: 27 :: 28 :: 29 :: 30 :: 31 :: 32 :: 33 :: 34 :: 35 :: 36 :: 37 :: 38 :: 39 :: []) ⟨fun k2 => [(4, AV.int k2)], fun k2 => [], fun k2 => k2 ≤ k ∧ ∀ i, i < k2 → (fun j => !sameCall (elt l k) (elt l j)) i = true⟩ (fun k2 => k - k2) 0 hs rfl ?ok2 ?env2 ?round2
   case ok2 => exact ⟨Nat.zero_le _, fun i hi => by omega⟩
   case env2 => exact (Env.le_consE rfl (by rfl) Env.le_nil)
   case round2 =>
    rintro k2 I a w hok hs
    obtain ⟨hk_k2, hall2⟩ := hok
    refine wp_seq <| wp_seq <| St.region <| hs.m fun hs => hs.m fun hs => hs.o (ok_lss .tt .tt) fun hs => wpList_nil <| then_n ?_
    refine hs.cond .tt (fun hb2 => ?_) (fun hb2 => ?_)
    ·try simp only [B] at hb2
     refine wp_skip <| then_n <| wp_seq <| wp_block <| wp_seq <| hs.dk <| .o (ok_move .tt) <| .o (ok_move .tt) ?_
     refine .o ((by first | exact ok_idxN un48 ty94 .tt .tt (fun _ => by exact hb1) | exact ok_idxM un48 ty94 .tt .tt (fun _ => by exact hb1) | exact ok_idx un48 ty94 .tt .tt (fun _ => by exact hb1))) ?_
     refine .o (ok_fieldP fd94_3 rfl .tt) <| .o (ok_load1 ty3 .tt) <| .o (ok_move .tt) <| .o (ok_move .tt) ?_
     refine .o ((by first | exact ok_idxN un48 ty94 .tt .tt (fun _ => by omega) | exact ok_idxM un48 ty94 .tt .tt (fun _ => by omega) | exact ok_idx un48 ty94 .tt .tt (fun _ => by omega))) ?_
     refine .o (ok_fieldP fd94_3 rfl .tt) <| .o (ok_load1 ty3 .tt) <| .o (ok_eqi .tt .tt) <| .o (ok_move .tt) <| .q .T (ok_move .tt) <| .q .T (ok_move .tt) ?_
     refine .q .T ((by first | exact ok_idxN un48 ty94 .ag .ag (fun hg => by exact hb1) | exact ok_idxM un48 ty94 .ag .ag (fun hg => by exact hb1) | exact ok_idx un48 ty94 .ag .ag (fun hg => by exact hb1))) ?_
     refine .q .T (ok_fieldP fd94_4 rfl .ag) ?_
     refine .q .T (ok_load1 ty3 .ag) ?_
     refine .q .T (ok_move .tt) <| .q .T (ok_move .tt) ?_
     refine .q .T ((by first | exact ok_idxN un48 ty94 .ag .ag (fun hg => by omega) | exact ok_idxM un48 ty94 .ag .ag (fun hg => by omega) | exact ok_idx un48 ty94 .ag .ag (fun hg => by omega))) ?_
     refine .q .T (ok_fieldP fd94_4 rfl .ag) ?_
     refine .q .T (ok_load1 ty3 .ag) ?_
     refine .q .T (ok_eqi .ag .ag) ?_
     refine .o (ok_and .tt .pc .c) <| RunK.nil ?_
     intro I a w hs
     refine then_n ?_
     refine hs.cond .tt (fun hb3 => ?_) (fun hb3 => ?_)
     ·change sameCall (elt l k) (elt l k2) = true at hb3
      refine wp_seq <| St.region <| hs.sc fun hs => wpList_nil <| then_n <| wp_ret <| block_r <| then_r <| then_r <| block_r <| block_r <| then_r <| then_r <| block_r <| then_r <| hs.ret rfl (.cons (.t rfl) ResL.nil) ?_
      exact ret_bool (by unfold once2; rw [allN_false (f := fun i => allN i fun j => !sameCall (elt l i) (elt l j)) hb1 (allN_false (f := fun j => !sameCall (elt l k) (elt l j)) hb2 (by rw [hb3]; rfl))])
     ·change sameCall (elt l k) (elt l k2) = false at hb3
      refine wp_skip <| block_n <| then_n <| St.region <| hs.m fun hs => ?_
      refine hs.o (ok_add .tt .c (fun _ => by omega)) fun hs => ?_
      refine hs.s fun hs => wpList_nil <| then_n ?_
      refine hs.again (k2 + 1) ?mu1 ?ok1001 (by rfl) ?env1001 (by repeat (first | exact Env.le_rfl | refine Env.le_push rfl ?_))
      case mu1 => omega
      case ok1001 => exact ⟨by omega, allN_next hall2 (by rw [hb3]; rfl)⟩
      case env1001 => exact (Env.le_consE rfl (by first | rfl | (congr 1; done)) Env.le_nil)
    ·try simp only [B] at hb2
     refine wp_exit <| then_x <| then_x <| block_hit <| block_n <| then_n <| St.region <| hs.m fun hs => ?_
     refine hs.o (ok_add .tt .c (fun _ => by omega)) fun hs => ?_
     refine hs.s fun hs => wpList_nil <| then_n ?_
     refine hs.again (k + 1) ?mu2 ?ok1002 (by rfl) ?env1002 (by repeat (first | exact Env.le_rfl | refine Env.le_push rfl ?_))
     case mu2 => omega
     case ok1002 => exact ⟨by omega, allN_next hall (allN_true hall2 (by omega))⟩
     case env1002 => exact (Env.le_consE rfl (by first | rfl | (congr 1; done)) Env.le_nil)
  ·try simp only [B] at hb1
   refine wp_exit <| then_x <| then_x <| block_hit <| then_n <| wp_seq <| St.region <| hs.sc fun hs => wpList_nil <| then_n <| wp_ret <| hs.ret rfl (.cons (.t rfl) ResL.nil) ?_
   exact ret_bool (allN_true hall (by omega)).symm


def slotNo1 (x y : Slot) : Bool := (x.stand == 0) || (y.stand == 1) || decide (x.epoch < y.epoch)
def slotNo2 (x y : Slot) : Bool := (x.stand == 1) && (y.stand == 2) && (y.epoch != x.epoch)
def slotNo3 (x y : Slot) : Bool := (x.stand == 2) && (y.epoch == x.epoch)
theorem slotRight_eq (x y : Slot) : slotRight x y = (!slotNo1 x y && !slotNo2 x y && !slotNo3 x y) := rfl
def slotAt2 (w : Neck) (side : Int) (i : Nat) : Bool := slotFits2 (elt (srv w (2 * side)).slots i) (elt (srv w (2 * side + 1)).slots i)
theorem turns_test (x y : Slot) : ((y.stand == 1) || (x.stand == 0) || ((x.stand == 2) && (y.stand == 2) && decide (x.epoch < y.epoch))) = slotTurns x y := rfl
theorem fit_turned {x y : Slot} (h : slotTurns x y = true) : slotFits2 x y = slotRight y x := by unfold slotFits2; rw [if_pos h]
theorem fit_plain {x y : Slot} (h : slotTurns x y = false) : slotFits2 x y = slotRight x y := by unfold slotFits2; rw [h]; simp
theorem right_no {x y : Slot} (h : slotNo1 x y = true ∨ slotNo2 x y = true ∨ slotNo3 x y = true) : slotRight x y = false := by
  rw [slotRight_eq]; rcases h with h | h | h <;> rw [h] <;> simp
theorem right_yes {x y : Slot} (h1 : slotNo1 x y = false) (h2 : slotNo2 x y = false) (h3 : slotNo3 x y = false) : slotRight x y = true := by
  rw [slotRight_eq, h1, h2, h3]; rfl

set_option maxHeartbeats 4000000 in
theorem c_spec_l43Slots (x : Neck) (s : Int) (hnk : neckOk x = true) (hs0 : 0 ≤ s ∧ s ≤ 1) :
    Fn Tryz.prog 66 [x.av, AV.int s] (AV.bool (slots2 x s)) := by
 refine Fn.intro 103 Tryz.func66 rfl Tryz.ntmps66 rfl (by kernel_rfl) (fun W I a hs => ?_)
 have h4 := (neckOk_server hnk (k := 0) (by omega)).2.1
 obtain ⟨-, -, -, -, sa⟩ := side_parts hnk (i := (2 * s).toNat) (by omega)
 obtain ⟨-, -, -, -, sb⟩ := side_parts hnk (i := (2 * s + 1).toNat) (by omega)
 refine wp_seq <| St.region <| hs.o (ok_boxP .tt) fun hs => hs.sc fun hs => wpList_nil <| then_n <| wp_seq <| wp_seq <| St.region <| hs.sc fun hs => wpList_nil <| then_n <| wp_block ?_
 refine St.loopS (σ := Nat) (4 :: 5 :: 6 :: 7 :: 8 :: 9 :: 10 :: 11 :: 12 :: 13 :: 14 :: 15 :: 16 :: 17 :: 18 :: 19 :: 20 :: 21 :: 22 :: 23 :: 24 :: 25 :: 26 :: 27 :: 28 :: 29 :: 30 :: 31 :: 32 :: 33 :: 34 :: 35 :: 36 :: 37 :: 38 :: 39 :: 40 :: 41 :: 42 :: 43 :: 44 :: 45 :: 46 :: 47 :: 48 :: 49 :: 50 :: 51 :: 52 :: 53 :: 54 :: 55 :: 56 :: 57 :: 58 :: 59 :: 60 :: 61 :: 62 :: 63 :: 64 :: 65 :: 66 :: 67 :: 68 :: 69 :: 70 :: 71 :: 72 :: 73 :: 74 :: 75 :: 76 :: 77 :: 78 :: 79 :: 80 :: 81 :: 82 :: 83 :: 84 :: 85 :: 86 :: 87 :: 88 :: 89 :: 90 :: 91 :: 92 :: 93 :: 94 :: 95 :: 96 :: 97 :: 98 :: 99 :: 100 :: 101 :: 102 :: []) ⟨fun k => [(5, AV.int k)], fun k => [], fun k => k ≤ 3 ∧ ∀ i, i < k → (slotAt2 x s) i = true⟩ (fun k => 3 - k) 0 hs rfl ?ok1 ?env1 ?round1
 case ok1 => exact ⟨Nat.zero_le _, fun i hi => by omega⟩
 case env1 => exact (Env.le_consE rfl (by rfl) Env.le_nil)
 case round1 =>
  rintro k I a w hok hs
  obtain ⟨hk_k, hall⟩ := hok
  refine wp_seq <| wp_seq <| St.region <| hs.m fun hs => hs.o (ok_lss .tt .c) fun hs => wpList_nil <| then_n ?_
  refine hs.cond .tt (fun hb1 => ?_) (fun hb1 => ?_)
  ·try simp only [B] at hb1
   refine wp_skip <| then_n <| wp_seq <| wp_block <| wp_seq <| St.region <| hs.o (ok_fieldP fd35_1 rfl .tt) fun hs => hs.o (ok_load1 ty30 .tt) fun hs => hs.m fun hs => ?_
   refine hs.o (ok_mul .c .tt (fun _ => by omega)) fun hs => ?_
   refine hs.o ((by first | exact ok_idxN un30 ty89 .tt .tt (fun _ => by omega) | exact ok_idxM un30 ty89 .tt .tt (fun _ => by omega) | exact ok_idx un30 ty89 .tt .tt (fun _ => by omega))) fun hs => ?_
   refine hs.o (ok_fieldP fd89_2 rfl .tt) fun hs => hs.o (ok_load1 ty87 .tt) fun hs => hs.m fun hs => ?_
   refine hs.o ((by first | exact ok_idxN un87 ty91 .tt .tt (fun _ => by omega) | exact ok_idxM un87 ty91 .tt .tt (fun _ => by omega) | exact ok_idx un87 ty91 .tt .tt (fun _ => by omega))) fun hs => ?_
   refine hs.o ((by first | exact ok_loadA ty91 .tt rfl | exact ok_loadS ty91 .tt rfl)) fun hs => ?_
   refine hs.alloc rfl ty91 zc91 fun b6 I a w hs => ?_
   refine hs.storeB 0 ty91 .tt .tt rfl (by first | rfl | assumption) rfl fun a w hs => ?_
   refine wpList_nil <| then_n <| wp_seq <| St.region <| hs.o (ok_fieldP fd35_1 rfl .tt) fun hs => hs.o (ok_load1 ty30 .tt) fun hs => hs.m fun hs => ?_
   refine hs.o (ok_mul .c .tt (fun _ => by omega)) fun hs => ?_
   refine hs.o (ok_add .tt .c (fun _ => by omega)) fun hs => ?_
   refine hs.o ((by first | exact ok_idxN un30 ty89 .tt .tt (fun _ => by omega) | exact ok_idxM un30 ty89 .tt .tt (fun _ => by omega) | exact ok_idx un30 ty89 .tt .tt (fun _ => by omega))) fun hs => ?_
   refine hs.o (ok_fieldP fd89_2 rfl .tt) fun hs => hs.o (ok_load1 ty87 .tt) fun hs => hs.m fun hs => ?_
   refine hs.o ((by first | exact ok_idxN un87 ty91 .tt .tt (fun _ => by omega) | exact ok_idxM un87 ty91 .tt .tt (fun _ => by omega) | exact ok_idx un87 ty91 .tt .tt (fun _ => by omega))) fun hs => ?_
   refine hs.o ((by first | exact ok_loadA ty91 .tt rfl | exact ok_loadS ty91 .tt rfl)) fun hs => ?_
   refine hs.alloc rfl ty91 zc91 fun b7 I a w hs => ?_
   refine hs.storeB 1 ty91 .tt .tt rfl (by first | rfl | assumption) rfl fun a w hs => ?_
   refine wpList_nil <| then_n <| wp_seq <| wp_seq <| St.region <| hs.o (ok_fieldV fd91_1 rfl .tt) fun hs => hs.o (ok_loadB 1 ty3 .tt rfl rfl) fun hs => hs.o (ok_eqi .tt .c) fun hs => hs.m fun hs => hs.q .F (ok_fieldV fd91_1 rfl .tt) fun hs => hs.q .F (ok_loadB 0 ty3 .ag rfl rfl) fun hs => ?_
   refine hs.q .F (ok_eqi .ag .c) fun hs => ?_
   refine hs.o (ok_or .tt .c .pc) fun hs => hs.m fun hs => hs.q .F (ok_fieldV fd91_1 rfl .tt) fun hs => hs.q .F (ok_loadB 0 ty3 .ag rfl rfl) fun hs => ?_
   refine hs.q .F (ok_eqi .ag .c) fun hs => ?_
   refine hs.q .F (ok_move .ag) fun hs => ?_
   refine hs.q .T2 (ok_fieldV fd91_1 rfl .tt) fun hs => hs.q .T2 (ok_loadB 1 ty3 .ag rfl rfl) fun hs => ?_
   refine hs.q .T2 (ok_eqi .ag .c) fun hs => ?_
   refine hs.q .F (ok_and .ag .pc .c) fun hs => ?_
   refine hs.q .F (ok_move .ag) fun hs => ?_
   refine hs.q .T2 (ok_fieldV fd91_0 rfl .tt) fun hs => hs.q .T2 (ok_loadB 0 ty3 .ag rfl rfl) fun hs => ?_
   refine hs.q .T2 (ok_fieldV fd91_0 rfl .tt) fun hs => hs.q .T2 (ok_loadB 1 ty3 .ag rfl rfl) fun hs => ?_
   refine hs.q .T2 (ok_lss .ag .ag) fun hs => ?_
   refine hs.q .F (ok_and .ag .pc .c) fun hs => ?_
   refine hs.o (ok_or .tt .c .pc) fun hs => wpList_nil <| then_n ?_
   refine hs.cond .tt (fun hb2 => ?_) (fun hb2 => ?_)
   ·change slotTurns (elt (elt x.servers (2 * s).toNat).slots k) (elt (elt x.servers (2 * s + 1).toNat).slots k) = true at hb2
    refine St.region <| hs.o (ok_loadBS 1 ty91 .tt rfl rfl rfl) fun hs => hs.o (ok_loadBS 0 ty91 .tt rfl rfl rfl) fun hs => ?_
    refine hs.storeB 0 ty91 .tt .tt rfl (by first | rfl | assumption) rfl fun a w hs => ?_
    refine hs.storeB 1 ty91 .tt .tt rfl (by first | rfl | assumption) rfl fun a w hs => ?_
    refine wpList_nil <| then_n <| wp_block <| wp_seq <| St.region <| hs.o (ok_fieldV fd91_1 rfl .tt) fun hs => hs.o (ok_loadB 0 ty3 .tt rfl rfl) fun hs => hs.o (ok_eqi .tt .c) fun hs => hs.m fun hs => hs.q .F (ok_fieldV fd91_1 rfl .tt) fun hs => hs.q .F (ok_loadB 1 ty3 .ag rfl rfl) fun hs => ?_
    refine hs.q .F (ok_eqi .ag .c) fun hs => ?_
    refine hs.o (ok_or .tt .c .pc) fun hs => hs.m fun hs => hs.q .F (ok_fieldV fd91_0 rfl .tt) fun hs => hs.q .F (ok_loadB 1 ty3 .ag rfl rfl) fun hs => ?_
    refine hs.q .F (ok_fieldV fd91_0 rfl .tt) fun hs => hs.q .F (ok_loadB 0 ty3 .ag rfl rfl) fun hs => ?_
    refine hs.q .F (ok_gtr .ag .ag) fun hs => ?_
    refine hs.o (ok_or .tt .c .pc) fun hs => hs.s fun hs => wpList_nil <| then_n ?_
    refine hs.cond .tt (fun hb3 => ?_) (fun hb3 => ?_)
    ·change slotNo1 (elt (elt x.servers (2 * s + 1).toNat).slots k) (elt (elt x.servers (2 * s).toNat).slots k) = true at hb3
     refine wp_seq <| St.region <| hs.sc fun hs => wpList_nil <| then_n <| wp_ret <| block_r <| block_r <| then_r <| then_r <| block_r <| then_r <| hs.ret rfl (.cons (.t rfl) ResL.nil) ?_
     exact ret_bool (by unfold slots2; exact (allN_false (f := slotAt2 x s) (k := k) (n := 3) (by omega) ((fit_turned hb2).trans (right_no (.inl hb3)))).symm)
    ·change slotNo1 (elt (elt x.servers (2 * s + 1).toNat).slots k) (elt (elt x.servers (2 * s).toNat).slots k) = false at hb3
     refine wp_seq <| St.region <| hs.o (ok_fieldV fd91_1 rfl .tt) fun hs => hs.o (ok_loadB 0 ty3 .tt rfl rfl) fun hs => hs.o (ok_eqi .tt .c) fun hs => hs.m fun hs => hs.q .T (ok_fieldV fd91_1 rfl .tt) fun hs => hs.q .T (ok_loadB 1 ty3 .ag rfl rfl) fun hs => ?_
     refine hs.q .T (ok_eqi .ag .c) fun hs => ?_
     refine hs.o (ok_and .tt .pc .c) fun hs => hs.m fun hs => hs.q .T (ok_fieldV fd91_0 rfl .tt) fun hs => hs.q .T (ok_loadB 1 ty3 .ag rfl rfl) fun hs => ?_
     refine hs.q .T (ok_fieldV fd91_0 rfl .tt) fun hs => hs.q .T (ok_loadB 0 ty3 .ag rfl rfl) fun hs => ?_
     refine hs.q .T (ok_nei .ag .ag) fun hs => ?_
     refine hs.o (ok_and .tt .pc .c) fun hs => hs.s fun hs => wpList_nil <| then_n ?_
     refine hs.cond .tt (fun hb4 => ?_) (fun hb4 => ?_)
     ·change slotNo2 (elt (elt x.servers (2 * s + 1).toNat).slots k) (elt (elt x.servers (2 * s).toNat).slots k) = true at hb4
      refine wp_seq <| St.region <| hs.sc fun hs => wpList_nil <| then_n <| wp_ret <| block_r <| block_r <| then_r <| then_r <| block_r <| then_r <| hs.ret rfl (.cons (.t rfl) ResL.nil) ?_
      exact ret_bool (by unfold slots2; exact (allN_false (f := slotAt2 x s) (k := k) (n := 3) (by omega) ((fit_turned hb2).trans (right_no (.inr (.inl hb4))))).symm)
     ·change slotNo2 (elt (elt x.servers (2 * s + 1).toNat).slots k) (elt (elt x.servers (2 * s).toNat).slots k) = false at hb4
      refine wp_seq <| St.region <| hs.o (ok_fieldV fd91_1 rfl .tt) fun hs => hs.o (ok_loadB 0 ty3 .tt rfl rfl) fun hs => hs.o (ok_eqi .tt .c) fun hs => hs.m fun hs => hs.q .T (ok_fieldV fd91_0 rfl .tt) fun hs => hs.q .T (ok_loadB 1 ty3 .ag rfl rfl) fun hs => ?_
      refine hs.q .T (ok_fieldV fd91_0 rfl .tt) fun hs => hs.q .T (ok_loadB 0 ty3 .ag rfl rfl) fun hs => ?_
      refine hs.q .T (ok_eqi .ag .ag) fun hs => ?_
      refine hs.o (ok_and .tt .pc .c) fun hs => hs.s fun hs => wpList_nil <| then_n ?_
      refine hs.cond .tt (fun hb5 => ?_) (fun hb5 => ?_)
      ·change slotNo3 (elt (elt x.servers (2 * s + 1).toNat).slots k) (elt (elt x.servers (2 * s).toNat).slots k) = true at hb5
       refine wp_seq <| St.region <| hs.sc fun hs => wpList_nil <| then_n <| wp_ret <| block_r <| block_r <| then_r <| then_r <| block_r <| then_r <| hs.ret rfl (.cons (.t rfl) ResL.nil) ?_
       exact ret_bool (by unfold slots2; exact (allN_false (f := slotAt2 x s) (k := k) (n := 3) (by omega) ((fit_turned hb2).trans (right_no (.inr (.inr hb5))))).symm)
      ·change slotNo3 (elt (elt x.servers (2 * s + 1).toNat).slots k) (elt (elt x.servers (2 * s).toNat).slots k) = false at hb5
       refine wp_skip <| block_n <| block_n <| then_n <| St.region <| hs.m fun hs => ?_
       refine hs.o (ok_add .tt .c (fun _ => by omega)) fun hs => ?_
       refine hs.s fun hs => wpList_nil <| then_n ?_
       have hs := hs.drop 0
       refine hs.again (k + 1) ?mu1 ?ok1001 (by rfl) ?env1001 (by repeat (first | exact Env.le_rfl | refine Env.le_push rfl ?_))
       case mu1 => omega
       case ok1001 => exact ⟨by omega, allN_next hall (by first | exact (fit_turned hb2).trans (right_yes hb3 hb4 hb5) | exact (fit_plain hb2).trans (right_yes hb6 hb7 hb8))⟩
       case env1001 => exact (Env.le_consE rfl (by first | rfl | (congr 1; done)) Env.le_nil)
   ·change slotTurns (elt (elt x.servers (2 * s).toNat).slots k) (elt (elt x.servers (2 * s + 1).toNat).slots k) = false at hb2
    refine wp_skip <| then_n <| wp_block <| wp_seq <| St.region <| hs.o (ok_fieldV fd91_1 rfl .tt) fun hs => hs.o (ok_loadB 0 ty3 .tt rfl rfl) fun hs => hs.o (ok_eqi .tt .c) fun hs => hs.m fun hs => hs.q .F (ok_fieldV fd91_1 rfl .tt) fun hs => hs.q .F (ok_loadB 1 ty3 .ag rfl rfl) fun hs => ?_
    refine hs.q .F (ok_eqi .ag .c) fun hs => ?_
    refine hs.o (ok_or .tt .c .pc) fun hs => hs.m fun hs => hs.q .F (ok_fieldV fd91_0 rfl .tt) fun hs => hs.q .F (ok_loadB 1 ty3 .ag rfl rfl) fun hs => ?_
    refine hs.q .F (ok_fieldV fd91_0 rfl .tt) fun hs => hs.q .F (ok_loadB 0 ty3 .ag rfl rfl) fun hs => ?_
    refine hs.q .F (ok_gtr .ag .ag) fun hs => ?_
    refine hs.o (ok_or .tt .c .pc) fun hs => hs.s fun hs => wpList_nil <| then_n ?_
    refine hs.cond .tt (fun hb6 => ?_) (fun hb6 => ?_)
    ·change slotNo1 (elt (elt x.servers (2 * s).toNat).slots k) (elt (elt x.servers (2 * s + 1).toNat).slots k) = true at hb6
     refine wp_seq <| St.region <| hs.sc fun hs => wpList_nil <| then_n <| wp_ret <| block_r <| block_r <| then_r <| then_r <| block_r <| then_r <| hs.ret rfl (.cons (.t rfl) ResL.nil) ?_
     exact ret_bool (by unfold slots2; exact (allN_false (f := slotAt2 x s) (k := k) (n := 3) (by omega) ((fit_plain hb2).trans (right_no (.inl hb6)))).symm)
    ·change slotNo1 (elt (elt x.servers (2 * s).toNat).slots k) (elt (elt x.servers (2 * s + 1).toNat).slots k) = false at hb6
     refine wp_seq <| St.region <| hs.o (ok_fieldV fd91_1 rfl .tt) fun hs => hs.o (ok_loadB 0 ty3 .tt rfl rfl) fun hs => hs.o (ok_eqi .tt .c) fun hs => hs.m fun hs => hs.q .T (ok_fieldV fd91_1 rfl .tt) fun hs => hs.q .T (ok_loadB 1 ty3 .ag rfl rfl) fun hs => ?_
     refine hs.q .T (ok_eqi .ag .c) fun hs => ?_
     refine hs.o (ok_and .tt .pc .c) fun hs => hs.m fun hs => hs.q .T (ok_fieldV fd91_0 rfl .tt) fun hs => hs.q .T (ok_loadB 1 ty3 .ag rfl rfl) fun hs => ?_
     refine hs.q .T (ok_fieldV fd91_0 rfl .tt) fun hs => hs.q .T (ok_loadB 0 ty3 .ag rfl rfl) fun hs => ?_
     refine hs.q .T (ok_nei .ag .ag) fun hs => ?_
     refine hs.o (ok_and .tt .pc .c) fun hs => hs.s fun hs => wpList_nil <| then_n ?_
     refine hs.cond .tt (fun hb7 => ?_) (fun hb7 => ?_)
     ·change slotNo2 (elt (elt x.servers (2 * s).toNat).slots k) (elt (elt x.servers (2 * s + 1).toNat).slots k) = true at hb7
      refine wp_seq <| St.region <| hs.sc fun hs => wpList_nil <| then_n <| wp_ret <| block_r <| block_r <| then_r <| then_r <| block_r <| then_r <| hs.ret rfl (.cons (.t rfl) ResL.nil) ?_
      exact ret_bool (by unfold slots2; exact (allN_false (f := slotAt2 x s) (k := k) (n := 3) (by omega) ((fit_plain hb2).trans (right_no (.inr (.inl hb7))))).symm)
     ·change slotNo2 (elt (elt x.servers (2 * s).toNat).slots k) (elt (elt x.servers (2 * s + 1).toNat).slots k) = false at hb7
      refine wp_seq <| St.region <| hs.o (ok_fieldV fd91_1 rfl .tt) fun hs => hs.o (ok_loadB 0 ty3 .tt rfl rfl) fun hs => hs.o (ok_eqi .tt .c) fun hs => hs.m fun hs => hs.q .T (ok_fieldV fd91_0 rfl .tt) fun hs => hs.q .T (ok_loadB 1 ty3 .ag rfl rfl) fun hs => ?_
      refine hs.q .T (ok_fieldV fd91_0 rfl .tt) fun hs => hs.q .T (ok_loadB 0 ty3 .ag rfl rfl) fun hs => ?_
      refine hs.q .T (ok_eqi .ag .ag) fun hs => ?_
      refine hs.o (ok_and .tt .pc .c) fun hs => hs.s fun hs => wpList_nil <| then_n ?_
      refine hs.cond .tt (fun hb8 => ?_) (fun hb8 => ?_)
      ·change slotNo3 (elt (elt x.servers (2 * s).toNat).slots k) (elt (elt x.servers (2 * s + 1).toNat).slots k) = true at hb8
       refine wp_seq <| St.region <| hs.sc fun hs => wpList_nil <| then_n <| wp_ret <| block_r <| block_r <| then_r <| then_r <| block_r <| then_r <| hs.ret rfl (.cons (.t rfl) ResL.nil) ?_
       exact ret_bool (by unfold slots2; exact (allN_false (f := slotAt2 x s) (k := k) (n := 3) (by omega) ((fit_plain hb2).trans (right_no (.inr (.inr hb8))))).symm)
      ·change slotNo3 (elt (elt x.servers (2 * s).toNat).slots k) (elt (elt x.servers (2 * s + 1).toNat).slots k) = false at hb8
       refine wp_skip <| block_n <| block_n <| then_n <| St.region <| hs.m fun hs => ?_
       refine hs.o (ok_add .tt .c (fun _ => by omega)) fun hs => ?_
       refine hs.s fun hs => wpList_nil <| then_n ?_
       have hs := hs.drop 0
       refine hs.again (k + 1) ?mu2 ?ok1002 (by rfl) ?env1002 (by repeat (first | exact Env.le_rfl | refine Env.le_push rfl ?_))
       case mu2 => omega
       case ok1002 => exact ⟨by omega, allN_next hall (by first | exact (fit_turned hb2).trans (right_yes hb3 hb4 hb5) | exact (fit_plain hb2).trans (right_yes hb6 hb7 hb8))⟩
       case env1002 => exact (Env.le_consE rfl (by first | rfl | (congr 1; done)) Env.le_nil)
  ·try simp only [B] at hb1
   refine wp_exit <| then_x <| then_x <| block_hit <| then_n <| wp_seq <| St.region <| hs.sc fun hs => wpList_nil <| then_n <| wp_ret <| hs.ret rfl (.cons (.t rfl) ResL.nil) ?_
   exact ret_bool (by unfold slots2; exact (allN_true hall (by omega)).symm)


theorem call_skip {own : List Ver} {side : Int} {q : Call} (h : ((q.client != side) || (q.end_ == 0) || (q.kind != 1)) = true) : callSafe own side q = true := by
  unfold callSafe
  rw [show ((q.client != side) || (q.kind != 1) || (q.end_ == 0)) = true by rw [Bool.or_assoc, Bool.or_comm (q.kind != 1), ← Bool.or_assoc]; exact h]
  rfl
def putAt (own : List Ver) (q : Call) : Bool := decide (0 ≤ placeOf own ⟨elt q.keys 0, q.stamp⟩) && ((elt own (placeOf own ⟨elt q.keys 0, q.stamp⟩).toNat).val == q.val) && ((elt own (placeOf own ⟨elt q.keys 0, q.stamp⟩).toNat).client == q.client) && ((elt own (placeOf own ⟨elt q.keys 0, q.stamp⟩).toNat).call == q.num)
theorem call_put {own : List Ver} {side : Int} {q : Call} (h : ((q.client != side) || (q.end_ == 0) || (q.kind != 1)) = false) : callSafe own side q = putAt own q := by
  unfold callSafe
  rw [show ((q.client != side) || (q.kind != 1) || (q.end_ == 0)) = false by rw [Bool.or_assoc, Bool.or_comm (q.kind != 1), ← Bool.or_assoc]; exact h]
  rfl
theorem put_test (own : List Ver) (q : Call) : (!(atV own ⟨elt q.keys 0, q.stamp⟩).isSome || (((atV own ⟨elt q.keys 0, q.stamp⟩).getD default).val != q.val) || (((atV own ⟨elt q.keys 0, q.stamp⟩).getD default).client != q.client) || (((atV own ⟨elt q.keys 0, q.stamp⟩).getD default).call != q.num)) = !putAt own q := by
  rw [atV_some]
  unfold putAt atV
  by_cases h : 0 ≤ placeOf own ⟨elt q.keys 0, q.stamp⟩
  · rw [if_pos h]
    simp [h, bne]
  · simp [h]
theorem safe_keys {x : Neck} (hok : neckOk x = true) {k : Nat} (hk : k < x.calls.length) : 0 < (elt x.calls k).keys.length := by
  have h := callOk_parts ((neckOk_parts hok).2.2.2.2.1 _ (elt_mem hk))
  have := h.2.2.1
  unfold keysOk at this
  rw [Bool.and_eq_true] at this
  have := this.2
  simp [inB] at this; omega
theorem neckOk_seen {x : Neck} (hok : neckOk x = true) : x.seen.length = 2 := (neckOk_parts hok).2.2.2.1
theorem seen_small {x : Neck} (hok : neckOk x = true) {k : Nat} (hk : k < 2) : (elt x.seen k).length ≤ 6 := by
  have h := neckOk_parts hok
  exact depsOk_len6 (h.2.2.2.2.2.2 _ (elt_mem (by omega)))

set_option maxHeartbeats 4000000 in
theorem c_spec_l43Kept (x : Neck) (s : Int) (l : List Ver) (hnk : neckOk x = true) (hs0 : 0 ≤ s ∧ s ≤ 1) :
    Fn Tryz.prog 67 [x.av, AV.int s, versAV l] (AV.bool (kept2 x s l)) := by
 refine Fn.intro 109 Tryz.func67 rfl Tryz.ntmps67 rfl (by kernel_rfl) (fun W I a hs => ?_)
 have lens : x.servers.length ≤ 9223372036854775807 ∧ x.radio.length ≤ 9223372036854775807 ∧ x.calls.length ≤ 9223372036854775807 ∧ x.seen.length ≤ 9223372036854775807 := by
    obtain ⟨cs, _, hc⟩ := hs.env 0 _ rfl
    obtain ⟨u1, _, h1, _⟩ := hc.get (i := 1) rfl
    obtain ⟨u2, _, h2, _⟩ := hc.get (i := 2) rfl
    obtain ⟨u3, _, h3, _⟩ := hc.get (i := 3) rfl
    obtain ⟨u4, _, h4, _⟩ := hc.get (i := 4) rfl
    exact ⟨rows_le h1, rows_le h2, rows_le h3, rows_le h4⟩
 have hse := neckOk_seen hnk
 have hs6 := seen_small hnk (k := s.toNat) (by omega)
 refine wp_seq <| St.region <| hs.o (ok_boxP .tt) fun hs => hs.sc fun hs => wpList_nil <| then_n <| wp_seq <| wp_seq <| St.region <| hs.sc fun hs => wpList_nil <| then_n <| wp_block ?_
 refine St.loopS (σ := Nat) (6 :: 7 :: 8 :: 9 :: 10 :: 14 :: 15 :: 16 :: 17 :: 18 :: 19 :: 20 :: 21 :: 22 :: 23 :: 24 :: 25 :: 26 :: 27 :: 28 :: 29 :: 30 :: 31 :: 32 :: 33 :: 34 :: 35 :: 36 :: 37 :: 38 :: 39 :: 40 :: 41 :: 42 :: 43 :: 44 :: 45 :: 46 :: 47 :: 48 :: 49 :: 50 :: 51 :: 52 :: 53 :: 54 :: 55 :: 56 :: 57 :: 58 :: 59 :: 60 :: 61 :: 62 :: 63 :: 64 :: 65 :: 66 :: 67 :: 68 :: 69 :: 70 :: 71 :: 72 :: 73 :: []) ⟨fun k => [(7, AV.int k)], fun k => [], fun k => k ≤ x.calls.length ∧ ∀ i, i < k → (fun i => callSafe l s (elt x.calls i)) i = true⟩ (fun k => x.calls.length - k) 0 hs rfl ?ok1 ?env1 ?round1
 case ok1 => exact ⟨Nat.zero_le _, fun i hi => by omega⟩
 case env1 => exact (Env.le_consE rfl (by rfl) Env.le_nil)
 case round1 =>
  rintro k I a w hok hs
  obtain ⟨hk_k, hall⟩ := hok
  refine wp_seq <| wp_seq <| St.region <| hs.m fun hs => hs.o (ok_fieldP fd35_3 rfl .tt) fun hs => hs.o (ok_load1 ty32 .tt) fun hs => ?_
  refine hs.o ((by first | exact ok_lenM un32 .tt | exact ok_len un32 .tt | exact ok_lenV un32 .tt)) fun hs => ?_
  refine hs.o (ok_lss .tt .tt) fun hs => wpList_nil <| then_n ?_
  refine hs.cond .tt (fun hb1 => ?_) (fun hb1 => ?_)
  ·try simp only [B] at hb1
   refine wp_skip <| then_n <| wp_seq <| wp_block <| wp_seq <| St.region <| hs.o (ok_fieldP fd35_3 rfl .tt) fun hs => hs.o (ok_load1 ty32 .tt) fun hs => hs.m fun hs => ?_
   refine hs.o ((by first | exact ok_idxN un32 ty70 .tt .tt (fun _ => by exact hb1) | exact ok_idxM un32 ty70 .tt .tt (fun _ => by exact hb1) | exact ok_idx un32 ty70 .tt .tt (fun _ => by exact hb1))) fun hs => ?_
   refine hs.o ((by first | exact ok_loadA ty70 .tt rfl | exact ok_loadS ty70 .tt rfl)) fun hs => ?_
   refine hs.alloc rfl ty70 zc70 fun b8 I a w hs => ?_
   refine hs.storeB 0 ty70 .tt .tt rfl (by first | rfl | assumption) rfl fun a w hs => ?_
   obtain ⟨I, hs, hf⟩ := hs.freezeBox 0 rfl
   have hs := hs.upd (t := 8) rfl hf; clear hf
   refine wpList_nil <| then_n <| wp_seq <| wp_seq <| St.region <| hs.o (ok_fieldP fd70_0 rfl .tt) fun hs => hs.o (ok_load1 ty3 .tt) fun hs => hs.m fun hs => hs.o (ok_nei .tt .tt) fun hs => hs.m fun hs => hs.q .F (ok_fieldP fd70_7 rfl .tt) fun hs => hs.q .F (ok_load1 ty3 .ag) fun hs => ?_
   refine hs.q .F (ok_eqi .ag .c) fun hs => ?_
   refine hs.o (ok_or .tt .c .pc) fun hs => hs.m fun hs => hs.q .F (ok_fieldP fd70_2 rfl .tt) fun hs => hs.q .F (ok_load1 ty3 .ag) fun hs => ?_
   refine hs.q .F (ok_nei .ag .c) fun hs => ?_
   refine hs.o (ok_or .tt .c .pc) fun hs => wpList_nil <| then_n ?_
   refine hs.cond .tt (fun hb2 => ?_) (fun hb2 => ?_)
   ·skip
    refine wp_exit <| then_x <| block_hit <| then_n <| St.region <| hs.m fun hs => ?_
    refine hs.o (ok_add .tt .c (fun _ => by omega)) fun hs => ?_
    refine hs.s fun hs => wpList_nil <| then_n ?_
    have hs := hs.drop 0
    refine hs.again (k + 1) ?mu1 ?ok1001 (by rfl) ?env1001 (by repeat (first | exact Env.le_rfl | refine Env.le_push rfl ?_))
    case mu1 => omega
    case ok1001 => exact ⟨by omega, allN_next hall (call_skip hb2)⟩
    case env1001 => exact (Env.le_consE rfl (by first | rfl | (congr 1; done)) Env.le_nil)
   ·skip
    refine wp_skip <| then_n <| wp_seq ?_
    have hs := hs.ownGone
    refine hs.drawD [([], none), ([], none), ([], none), ([], none), ([], none), ([], none), ([], none), ([], none), ([], none), ([], none), ([], none), ([1], some (1, [9])), ([1], some (1, [9])), ([], none)] (by kernel_rfl) (by kernel_rfl) rfl ?_
    refine RunD.op rfl rfl rfl (fun F a => ok_move .tt) <| RunD.op rfl rfl rfl (fun F a => ok_fieldP fd70_3 rfl .tt) <| RunD.op rfl rfl rfl (fun F a => ok_load1 ty64 .tt) ?_
    refine RunD.op rfl rfl rfl (fun F a => (by first | exact ok_idxN un64 ty3 .tt .c (fun _ => by have := safe_keys hnk hb1; omega) | exact ok_idxM un64 ty3 .tt .c (fun _ => by have := safe_keys hnk hb1; omega) | exact ok_idx un64 ty3 .tt .c (fun _ => by have := safe_keys hnk hb1; omega))) ?_
    refine RunD.op rfl rfl rfl (fun F a => ok_load1 ty3 .tt) <| RunD.op rfl rfl rfl (fun F a => ok_fieldP fd70_9 rfl .tt) ?_
    refine RunD.op rfl rfl rfl (fun F a => (by first | exact ok_loadA ty67 .tt rfl | exact ok_loadS ty67 .tt rfl)) ?_
    refine RunD.op rfl rfl rfl (fun F a => ok_call (c_spec_l43At ..) (args_cons .r (args_cons .tt (args_cons .tt args_nil)))) ?_
    refine RunD.op rfl rfl rfl (fun F a => ok_move .tt) <| RunD.op rfl rfl rfl (fun F a => ok_extract .tt rfl) <| RunD.op rfl rfl rfl (fun F a => ok_extract .tt rfl) <| RunD.alloc 1 rfl rfl ty94 zc94 <| RunD.storeN 1 rfl ty94 rfl .tt rfl rfl <| RunD.op rfl rfl rfl (fun F a => ok_assign .tt) <| RunD.nil ?_
    intro I a w hs
    obtain ⟨b9, hs⟩ := hs.openAt (d := 9) 1 rfl rfl
    obtain ⟨I, hs, hf⟩ := hs.freezeBox 1 rfl
    have hs := hs.upd (t := 9) rfl hf; clear hf
    refine then_n <| wp_seq <| St.region <| hs.m fun hs => hs.o (ok_not .tt) fun hs => hs.m fun hs => hs.q .F (ok_fieldP fd94_2 rfl .tt) fun hs => hs.q .F (ok_load1 ty3 .ag) fun hs => ?_
    refine hs.q .F (ok_fieldP fd70_4 rfl .tt) fun hs => hs.q .F (ok_load1 ty3 .ag) fun hs => ?_
    refine hs.q .F (ok_nei .ag .ag) fun hs => ?_
    refine hs.o (ok_or .tt .c .pc) fun hs => hs.m fun hs => hs.q .F (ok_fieldP fd94_3 rfl .tt) fun hs => hs.q .F (ok_load1 ty3 .ag) fun hs => ?_
    refine hs.q .F (ok_fieldP fd70_0 rfl .tt) fun hs => hs.q .F (ok_load1 ty3 .ag) fun hs => ?_
    refine hs.q .F (ok_nei .ag .ag) fun hs => ?_
    refine hs.o (ok_or .tt .c .pc) fun hs => hs.m fun hs => hs.q .F (ok_fieldP fd94_4 rfl .tt) fun hs => hs.q .F (ok_load1 ty3 .ag) fun hs => ?_
    refine hs.q .F (ok_fieldP fd70_1 rfl .tt) fun hs => hs.q .F (ok_load1 ty3 .ag) fun hs => ?_
    refine hs.q .F (ok_nei .ag .ag) fun hs => ?_
    refine hs.o (ok_or .tt .c .pc) fun hs => wpList_nil <| then_n ?_
    refine hs.cond .tt (fun hb3 => ?_) (fun hb3 => ?_)
    ·rw [put_test] at hb3; replace hb3 := nt hb3
     refine wp_seq <| St.region <| hs.sc fun hs => wpList_nil <| then_n <| wp_ret <| block_r <| then_r <| then_r <| block_r <| then_r <| hs.ret rfl (.cons (.t rfl) ResL.nil) ?_
     exact ret_bool (by unfold kept2; rw [allN_false (f := fun i => callSafe l s (elt x.calls i)) hb1 ((call_put hb2).trans hb3)]; rfl)
    ·rw [put_test] at hb3; replace hb3 := nf hb3
     refine wp_skip <| block_n <| then_n <| St.region <| hs.m fun hs => ?_
     refine hs.o (ok_add .tt .c (fun _ => by omega)) fun hs => ?_
     refine hs.s fun hs => wpList_nil <| then_n ?_
     have hs := hs.drop 0
     refine hs.again (k + 1) ?mu2 ?ok1002 (by rfl) ?env1002 (by repeat (first | exact Env.le_rfl | refine Env.le_push rfl ?_))
     case mu2 => omega
     case ok1002 => exact ⟨by omega, allN_next hall ((call_put hb2).trans hb3)⟩
     case env1002 => exact (Env.le_consE rfl (by first | rfl | (congr 1; done)) Env.le_nil)
  ·try simp only [B] at hb1
   refine wp_exit <| then_x <| then_x <| block_hit <| then_n <| wp_seq <| wp_seq <| St.region <| hs.sc fun hs => wpList_nil <| then_n <| wp_block ?_
   refine St.loopS (σ := Nat) (6 :: 11 :: 12 :: 13 :: 74 :: 75 :: 76 :: 77 :: 78 :: 79 :: 80 :: 81 :: 82 :: 83 :: 84 :: 85 :: 86 :: 87 :: 88 :: 89 :: 90 :: 91 :: 92 :: 93 :: 94 :: 95 :: 96 :: 97 :: 98 :: 99 :: 100 :: 101 :: 102 :: 103 :: 104 :: 105 :: 106 :: 107 :: 108 :: []) ⟨fun k2 => [(11, AV.int k2)], fun k2 => [], fun k2 => k2 ≤ (elt x.seen s.toNat).length ∧ ∀ i, i < k2 → (atAt l (elt x.seen s.toNat)) i = true⟩ (fun k2 => (elt x.seen s.toNat).length - k2) 0 hs rfl ?ok2 ?env2 ?round2
   case ok2 => exact ⟨Nat.zero_le _, fun i hi => by omega⟩
   case env2 => exact (Env.le_consE rfl (by rfl) Env.le_nil)
   case round2 =>
    rintro k2 I a w hok hs
    obtain ⟨hk_k2, hall2⟩ := hok
    refine wp_seq <| wp_seq <| St.region <| hs.m fun hs => hs.o (ok_fieldP fd35_4 rfl .tt) fun hs => hs.o (ok_load1 ty33 .tt) fun hs => hs.m fun hs => ?_
    refine hs.o ((by first | exact ok_idxN un33 ty65 .tt .tt (fun _ => by omega) | exact ok_idxM un33 ty65 .tt .tt (fun _ => by omega) | exact ok_idx un33 ty65 .tt .tt (fun _ => by omega))) fun hs => ?_
    refine hs.o (ok_load1 ty65 .tt) fun hs => ?_
    refine hs.o ((by first | exact ok_lenM un65 .tt | exact ok_len un65 .tt | exact ok_lenV un65 .tt)) fun hs => ?_
    refine hs.o (ok_lss .tt .tt) fun hs => wpList_nil <| then_n ?_
    refine hs.cond .tt (fun hb4 => ?_) (fun hb4 => ?_)
    ·try simp only [B] at hb4
     refine wp_skip <| then_n <| wp_seq <| wp_block <| wp_seq ?_
     have hs := hs.ownGone
     refine hs.drawD [([], none), ([], none), ([], none), ([], none), ([], none), ([], none), ([], none), ([], none), ([], none), ([], none), ([], none), ([], none), ([], none), ([], none), ([], none), ([], none), ([], none), ([], none), ([], none), ([], none), ([], none), ([], none), ([], none), ([0], some (0, [12])), ([0], some (0, [12])), ([], none)] (by kernel_rfl) (by kernel_rfl) rfl ?_
     refine RunD.op rfl rfl rfl (fun F a => ok_move .tt) <| RunD.op rfl rfl rfl (fun F a => ok_fieldP fd35_4 rfl .tt) <| RunD.op rfl rfl rfl (fun F a => ok_load1 ty33 .tt) <| RunD.op rfl rfl rfl (fun F a => ok_move .tt) ?_
     refine RunD.op rfl rfl rfl (fun F a => (by first | exact ok_idxN un33 ty65 .tt .tt (fun _ => by omega) | exact ok_idxM un33 ty65 .tt .tt (fun _ => by omega) | exact ok_idx un33 ty65 .tt .tt (fun _ => by omega))) ?_
     refine RunD.op rfl rfl rfl (fun F a => ok_load1 ty65 .tt) <| RunD.op rfl rfl rfl (fun F a => ok_move .tt) ?_
     refine RunD.op rfl rfl rfl (fun F a => (by first | exact ok_idxN un65 ty74 .tt .tt (fun _ => by exact hb4) | exact ok_idxM un65 ty74 .tt .tt (fun _ => by exact hb4) | exact ok_idx un65 ty74 .tt .tt (fun _ => by exact hb4))) ?_
     refine RunD.op rfl rfl rfl (fun F a => ok_fieldP fd74_0 rfl .tt) <| RunD.op rfl rfl rfl (fun F a => ok_load1 ty3 .tt) <| RunD.op rfl rfl rfl (fun F a => ok_fieldP fd35_4 rfl .tt) <| RunD.op rfl rfl rfl (fun F a => ok_load1 ty33 .tt) <| RunD.op rfl rfl rfl (fun F a => ok_move .tt) ?_
     refine RunD.op rfl rfl rfl (fun F a => (by first | exact ok_idxN un33 ty65 .tt .tt (fun _ => by omega) | exact ok_idxM un33 ty65 .tt .tt (fun _ => by omega) | exact ok_idx un33 ty65 .tt .tt (fun _ => by omega))) ?_
     refine RunD.op rfl rfl rfl (fun F a => ok_load1 ty65 .tt) <| RunD.op rfl rfl rfl (fun F a => ok_move .tt) ?_
     refine RunD.op rfl rfl rfl (fun F a => (by first | exact ok_idxN un65 ty74 .tt .tt (fun _ => by exact hb4) | exact ok_idxM un65 ty74 .tt .tt (fun _ => by exact hb4) | exact ok_idx un65 ty74 .tt .tt (fun _ => by exact hb4))) ?_
     refine RunD.op rfl rfl rfl (fun F a => ok_fieldP fd74_1 rfl .tt) ?_
     refine RunD.op rfl rfl rfl (fun F a => (by first | exact ok_loadA ty67 .tt rfl | exact ok_loadS ty67 .tt rfl)) ?_
     refine RunD.op rfl rfl rfl (fun F a => ok_call (c_spec_l43At ..) (args_cons .r (args_cons .tt (args_cons .tt args_nil)))) ?_
     refine RunD.op rfl rfl rfl (fun F a => ok_move .tt) <| RunD.op rfl rfl rfl (fun F a => ok_extract .tt rfl) <| RunD.op rfl rfl rfl (fun F a => ok_extract .tt rfl) <| RunD.alloc 0 rfl rfl ty94 zc94 <| RunD.storeN 0 rfl ty94 rfl .tt rfl rfl <| RunD.op rfl rfl rfl (fun F a => ok_assign .tt) <| RunD.nil ?_
     intro I a w hs
     obtain ⟨b12, hs⟩ := hs.openAt (d := 12) 0 rfl rfl
     obtain ⟨I, hs, hf⟩ := hs.freezeBox 0 rfl
     have hs := hs.upd (t := 12) rfl hf; clear hf
     refine then_n <| wp_seq <| St.region <| hs.m fun hs => hs.o (ok_not .tt) fun hs => wpList_nil <| then_n ?_
     refine hs.cond .tt (fun hb5 => ?_) (fun hb5 => ?_)
     ·simp only [B] at hb5; change (atV l (elt (elt x.seen s.toNat) k2)).isSome = false at hb5; rw [atV_some] at hb5
      refine wp_seq <| St.region <| hs.sc fun hs => wpList_nil <| then_n <| wp_ret <| block_r <| then_r <| then_r <| block_r <| then_r <| hs.ret rfl (.cons (.t rfl) ResL.nil) ?_
      exact ret_bool (by unfold kept2 atAll; rw [show allN (elt x.seen s.toNat).length (fun k => decide (0 ≤ placeOf l (elt (elt x.seen s.toNat) k))) = false from allN_false (f := atAt l (elt x.seen s.toNat)) hb4 hb5]; simp)
     ·simp only [B] at hb5; change (atV l (elt (elt x.seen s.toNat) k2)).isSome = true at hb5; rw [atV_some] at hb5
      refine wp_skip <| block_n <| then_n <| St.region <| hs.m fun hs => ?_
      refine hs.o (ok_add .tt .c (fun _ => by omega)) fun hs => ?_
      refine hs.s fun hs => wpList_nil <| then_n ?_
      have hs := hs.drop 0
      refine hs.again (k2 + 1) ?mu3 ?ok1003 (by rfl) ?env1003 (by repeat (first | exact Env.le_rfl | refine Env.le_push rfl ?_))
      case mu3 => omega
      case ok1003 => exact ⟨by omega, allN_next hall2 hb5⟩
      case env1003 => exact (Env.le_consE rfl (by first | rfl | (congr 1; done)) Env.le_nil)
    ·try simp only [B] at hb4
     refine wp_exit <| then_x <| then_x <| block_hit <| then_n <| wp_seq <| St.region <| hs.sc fun hs => wpList_nil <| then_n <| wp_ret <| hs.ret rfl (.cons (.t rfl) ResL.nil) ?_
     exact ret_bool (by unfold kept2 atAll; rw [allN_true hall (by omega), show allN (elt x.seen s.toNat).length (fun k => decide (0 ≤ placeOf l (elt (elt x.seen s.toNat) k))) = true from allN_true hall2 (by omega)]; rfl)


def waitsAt (x : Neck) (s : Int) (far : List Ver) (j : Nat) : Bool := allN (elt x.servers (2 * s + j).toNat).waits.length fun k => equalIn far (elt (elt x.servers (2 * s + j).toNat).waits k)
theorem waits_two (x : Neck) (s : Int) (far : List Ver) : waits2 x s far = allN 2 (waitsAt x s far) := by
  have h0 : waitsAt x s far 0 = allN (srv x (2 * s)).waits.length fun k => equalIn far (elt (srv x (2 * s)).waits k) := by unfold waitsAt srv; simp
  have h1 : waitsAt x s far 1 = allN (srv x (2 * s + 1)).waits.length fun k => equalIn far (elt (srv x (2 * s + 1)).waits k) := by unfold waitsAt srv; simp
  unfold waits2
  rw [← h0, ← h1, Bool.eq_iff_iff, Bool.and_eq_true, allN_iff]
  constructor
  · rintro ⟨a, b⟩ i hi
    match i, hi with
    | 0, _ => exact a
    | 1, _ => exact b
  · intro h; exact ⟨h 0 (by omega), h 1 (by omega)⟩
theorem wait_test2 (far : List Ver) (v : Ver) : (!(atV far v.dep).isSome || !verIs ((atV far v.dep).getD default) v) = !equalIn far v := by
  rw [atV_some]
  unfold equalIn atV
  by_cases h : 0 ≤ placeOf far v.dep
  · rw [if_pos h]; simp [h]
  · simp [h]

set_option maxHeartbeats 4000000 in
theorem c_spec_l43Waits (x : Neck) (s : Int) (far : List Ver) (hnk : neckOk x = true) (hs0 : 0 ≤ s ∧ s ≤ 1) :
    Fn Tryz.prog 68 [x.av, AV.int s, versAV far] (AV.bool (waits2 x s far)) := by
 refine Fn.intro 58 Tryz.func68 rfl Tryz.ntmps68 rfl (by kernel_rfl) (fun W I a hs => ?_)
 have h4 := (neckOk_server hnk (k := 0) (by omega)).2.1
 refine wp_seq <| St.region <| hs.o (ok_boxP .tt) fun hs => hs.sc fun hs => wpList_nil <| then_n <| wp_seq <| wp_seq <| St.region <| hs.m fun hs => ?_
 refine hs.o (ok_mul .c .tt (fun _ => by omega)) fun hs => ?_
 refine hs.s fun hs => wpList_nil <| then_n <| wp_block ?_
 refine St.loopS (σ := Nat) (6 :: 7 :: 8 :: 9 :: 10 :: 11 :: 14 :: 15 :: 16 :: 17 :: 18 :: 19 :: 20 :: 21 :: 22 :: 23 :: 24 :: 25 :: 26 :: 27 :: 28 :: 29 :: 30 :: 31 :: 32 :: 33 :: 34 :: 35 :: 36 :: 37 :: 38 :: 39 :: 40 :: 41 :: 42 :: 43 :: 44 :: 45 :: 46 :: 47 :: 48 :: 49 :: 50 :: 51 :: 52 :: 53 :: 54 :: 55 :: 56 :: 57 :: []) ⟨fun j => [(7, AV.int (2 * s + (j : Int)))], fun j => [], fun j => j ≤ 2 ∧ ∀ i, i < j → waitsAt x s far i = true⟩ (fun j => 2 - j) 0 hs rfl ?ok1 ?env1 ?round1
 case ok1 => exact ⟨Nat.zero_le _, fun i hi => by omega⟩
 case env1 => exact (Env.le_consE rfl (by exact congrArg AV.int (by omega)) Env.le_nil)
 case round1 =>
  rintro j I a w hok hs
  obtain ⟨hj, hall⟩ := hok
  refine wp_seq <| wp_seq <| St.region <| hs.m fun hs => hs.m fun hs => ?_
  refine hs.o (ok_mul .c .tt (fun _ => by omega)) fun hs => ?_
  refine hs.o (ok_add .tt .c (fun _ => by omega)) fun hs => ?_
  refine hs.o (ok_lss .tt .tt) fun hs => wpList_nil <| then_n ?_
  refine hs.cond .tt (fun hb1 => ?_) (fun hb1 => ?_)
  ·simp only [B] at hb1
   obtain ⟨-, cw, -⟩ := side_parts hnk (i := (2 * s + j).toNat) (by omega)
   have lw := chain_len cw
   refine wp_skip <| then_n <| wp_seq <| wp_block <| wp_seq <| St.region <| hs.sc fun hs => wpList_nil <| then_n <| wp_block ?_
   refine St.loopS (σ := Nat) (6 :: 8 :: 9 :: 10 :: 11 :: 21 :: 22 :: 23 :: 24 :: 25 :: 26 :: 27 :: 28 :: 29 :: 30 :: 31 :: 32 :: 33 :: 34 :: 35 :: 36 :: 37 :: 38 :: 39 :: 40 :: 41 :: 42 :: 43 :: 44 :: 45 :: 46 :: 47 :: 48 :: 49 :: 50 :: 51 :: 52 :: 53 :: 54 :: 55 :: 56 :: 57 :: []) ⟨fun k => [(8, AV.int k)], fun k => [], fun k => k ≤ (elt x.servers (2 * s + j).toNat).waits.length ∧ ∀ i, i < k → (fun i => equalIn far (elt (elt x.servers (2 * s + j).toNat).waits i)) i = true⟩ (fun k => (elt x.servers (2 * s + j).toNat).waits.length - k) 0 hs rfl ?ok2 ?env2 ?round2
   case ok2 => exact ⟨Nat.zero_le _, fun i hi => by omega⟩
   case env2 => exact (Env.le_consE rfl (by rfl) Env.le_nil)
   case round2 =>
    rintro k I a w hok hs
    obtain ⟨hk_k, hall2⟩ := hok
    refine wp_seq <| wp_seq <| St.region <| hs.m fun hs => hs.o (ok_fieldP fd35_1 rfl .tt) fun hs => hs.o (ok_load1 ty30 .tt) fun hs => hs.m fun hs => ?_
    refine hs.o ((by first | exact ok_idxN un30 ty89 .tt .tt (fun _ => by omega) | exact ok_idxM un30 ty89 .tt .tt (fun _ => by omega) | exact ok_idx un30 ty89 .tt .tt (fun _ => by omega))) fun hs => ?_
    refine hs.o (ok_fieldP fd89_4 rfl .tt) fun hs => hs.o (ok_load1 ty48 .tt) fun hs => ?_
    refine hs.o ((by first | exact ok_lenM un48 .tt | exact ok_len un48 .tt | exact ok_lenV un48 .tt)) fun hs => ?_
    refine hs.o (ok_lss .tt .tt) fun hs => wpList_nil <| then_n ?_
    refine hs.cond .tt (fun hb2 => ?_) (fun hb2 => ?_)
    ·try simp only [B] at hb2
     refine wp_skip <| then_n <| wp_seq <| wp_block <| wp_seq <| St.region <| hs.o (ok_fieldP fd35_1 rfl .tt) fun hs => hs.o (ok_load1 ty30 .tt) fun hs => hs.m fun hs => ?_
     refine hs.o ((by first | exact ok_idxN un30 ty89 .tt .tt (fun _ => by omega) | exact ok_idxM un30 ty89 .tt .tt (fun _ => by omega) | exact ok_idx un30 ty89 .tt .tt (fun _ => by omega))) fun hs => ?_
     refine hs.o (ok_fieldP fd89_4 rfl .tt) fun hs => hs.o (ok_load1 ty48 .tt) fun hs => hs.m fun hs => ?_
     refine hs.o ((by first | exact ok_idxN un48 ty94 .tt .tt (fun _ => by exact hb2) | exact ok_idxM un48 ty94 .tt .tt (fun _ => by exact hb2) | exact ok_idx un48 ty94 .tt .tt (fun _ => by exact hb2))) fun hs => ?_
     refine hs.o ((by first | exact ok_loadA ty94 .tt rfl | exact ok_loadS ty94 .tt rfl)) fun hs => ?_
     refine hs.alloc rfl ty94 zc94 fun b9 I a w hs => ?_
     refine hs.storeB 0 ty94 .tt .tt rfl (by first | rfl | assumption) rfl fun a w hs => ?_
     obtain ⟨I, hs, hf⟩ := hs.freezeBox 0 rfl
     have hs := hs.upd (t := 9) rfl hf; clear hf
     refine wpList_nil <| then_n <| wp_seq <| St.region <| hs.m fun hs => hs.o (ok_fieldP fd94_0 rfl .tt) fun hs => hs.o (ok_load1 ty3 .tt) fun hs => hs.o (ok_fieldP fd94_1 rfl .tt) fun hs => ?_
     refine hs.o ((by first | exact ok_loadA ty67 .tt rfl | exact ok_loadS ty67 .tt rfl)) fun hs => ?_
     refine hs.o (ok_call (c_spec_l43At ..) (args_cons .r (args_cons .tt (args_cons .tt args_nil)))) fun hs => ?_
     refine hs.m fun hs => hs.o (ok_extract .tt rfl) fun hs => hs.o (ok_extract .tt rfl) fun hs => hs.alloc rfl ty94 zc94 fun b10 I a w hs => ?_
     refine hs.storeB 1 ty94 .tt .tt rfl (by first | rfl | assumption) rfl fun a w hs => ?_
     obtain ⟨I, hs, hf⟩ := hs.freezeBox 1 rfl
     have hs := hs.upd (t := 10) rfl hf; clear hf
     refine hs.s fun hs => wpList_nil <| then_n <| wp_seq <| St.region <| hs.m fun hs => hs.o (ok_not .tt) fun hs => hs.m fun hs => ?_
     refine hs.q .F ((by first | exact ok_loadA ty94 .tt rfl | exact ok_loadS ty94 .tt rfl)) fun hs => ?_
     refine hs.q .F ((by first | exact ok_loadA ty94 .tt rfl | exact ok_loadS ty94 .tt rfl)) fun hs => ?_
     refine hs.q .F (ok_call (c_spec_l43Same ..) (args_cons .ag (args_cons .ag args_nil))) fun hs => ?_
     refine hs.q .F (ok_not .ag) fun hs => ?_
     refine hs.o (ok_or .tt .c .pc) fun hs => wpList_nil <| then_n ?_
     refine hs.cond .tt (fun hb3 => ?_) (fun hb3 => ?_)
     ·change (!(atV far (elt (elt x.servers (2 * s + j).toNat).waits k).dep).isSome || !verIs ((atV far (elt (elt x.servers (2 * s + j).toNat).waits k).dep).getD default) (elt (elt x.servers (2 * s + j).toNat).waits k)) = true at hb3; rw [wait_test2] at hb3; replace hb3 := nt hb3
      refine wp_seq <| St.region <| hs.sc fun hs => wpList_nil <| then_n <| wp_ret <| block_r <| then_r <| then_r <| block_r <| block_r <| then_r <| then_r <| block_r <| then_r <| hs.ret rfl (.cons (.t rfl) ResL.nil) ?_
      exact ret_bool (by rw [waits_two]; exact (allN_false (f := waitsAt x s far) (k := j) (by omega) (allN_false (f := fun i => equalIn far (elt (elt x.servers (2 * s + j).toNat).waits i)) hb2 hb3)).symm)
     ·change (!(atV far (elt (elt x.servers (2 * s + j).toNat).waits k).dep).isSome || !verIs ((atV far (elt (elt x.servers (2 * s + j).toNat).waits k).dep).getD default) (elt (elt x.servers (2 * s + j).toNat).waits k)) = false at hb3; rw [wait_test2] at hb3; replace hb3 := nf hb3
      refine wp_skip <| block_n <| then_n <| St.region <| hs.m fun hs => ?_
      refine hs.o (ok_add .tt .c (fun _ => by omega)) fun hs => ?_
      refine hs.s fun hs => wpList_nil <| then_n ?_
      have hs := hs.drop 0
      refine hs.again (k + 1) ?mu1 ?ok1001 (by rfl) ?env1001 (by repeat (first | exact Env.le_rfl | refine Env.le_push rfl ?_))
      case mu1 => omega
      case ok1001 => exact ⟨by omega, allN_next hall2 hb3⟩
      case env1001 => exact (Env.le_consE rfl (by first | rfl | (congr 1; done)) Env.le_nil)
    ·try simp only [B] at hb2
     refine wp_exit <| then_x <| then_x <| block_hit <| block_n <| then_n <| St.region <| hs.m fun hs => ?_
     refine hs.o (ok_add .tt .c (fun _ => by omega)) fun hs => ?_
     refine hs.s fun hs => wpList_nil <| then_n ?_
     refine hs.again (j + 1) ?mu2 ?ok1002 (by rfl) ?env1002 (by repeat (first | exact Env.le_rfl | refine Env.le_push rfl ?_))
     case mu2 => omega
     case ok1002 => exact ⟨by omega, allN_next hall (allN_true hall2 (by omega))⟩
     case env1002 => exact (Env.le_consE rfl (by exact congrArg AV.int (by omega)) Env.le_nil)
  ·try simp only [B] at hb1
   refine wp_exit <| then_x <| then_x <| block_hit <| then_n <| wp_seq <| St.region <| hs.sc fun hs => wpList_nil <| then_n <| wp_ret <| hs.ret rfl (.cons (.t rfl) ResL.nil) ?_
   exact ret_bool (by rw [waits_two]; exact (allN_true hall (by omega)).symm)

end Go.Proofs.YtlppgilifnkapaaGreat
