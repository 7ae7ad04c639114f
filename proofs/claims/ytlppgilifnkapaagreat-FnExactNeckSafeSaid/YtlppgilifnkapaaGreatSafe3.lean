/- Walks: the reference of what is safe. -/
import Derived.Test.YtlppgilifnkapaaGreatSafe1
set_option linter.unusedVariables false
set_option linter.unusedSimpArgs false
set_option maxRecDepth 100000
namespace Go.Proofs.YtlppgilifnkapaaGreat
open Go Go.RowKit


def cross1At (p q : List Ver) (i : Nat) : Bool := if 0 ≤ placeOf q (elt p i).dep then verIs (elt q (placeOf q (elt p i).dep).toNat) (elt p i) else siteSide (elt p i).stamp.site == 0
def cross2At (p q : List Ver) (i : Nat) : Bool := decide (0 ≤ placeOf p (elt q i).dep) || (siteSide (elt q i).stamp.site == 1)
theorem cross1_test (p q : List Ver) (i : Nat) : (((atV q (elt p i).dep).isSome && !verIs ((atV q (elt p i).dep).getD default) (elt p i)) || (!(atV q (elt p i).dep).isSome && (siteSide (elt p i).stamp.site != 0))) = !cross1At p q i := by
  rw [atV_some]
  unfold cross1At atV
  by_cases h : 0 ≤ placeOf q (elt p i).dep
  · rw [if_pos h, if_pos h]; simp [h]
  · rw [if_neg h, if_neg h]; simp [h, bne]
theorem cross2_test (p q : List Ver) (i : Nat) : (!(atV p (elt q i).dep).isSome && (siteSide (elt q i).stamp.site != 1)) = !cross2At p q i := by
  rw [atV_some]
  unfold cross2At
  simp [bne]
theorem safe_split (x : Neck) : neckSafe x = (neckOk x && allN (sideL x 0).length (cross1At (sideL x 0) (sideL x 1)) && allN (sideL x 1).length (cross2At (sideL x 0) (sideL x 1)) && (closed2 (sideL x 0) && closed2 (sideL x 1) && once2 (sideL x 0) && once2 (sideL x 1) && slots2 x 0 && slots2 x 1 && kept2 x 0 (sideL x 0) && kept2 x 1 (sideL x 1) && waits2 x 0 (sideL x 1) && waits2 x 1 (sideL x 0))) := by
  rw [← neckSafe_eq]; rfl

set_option maxHeartbeats 8000000 in
theorem c_spec_NeckSafe (x : Neck) (hgl : ∀ q ∈ x.calls, q.got.length ≤ 1048576) :
    Fn Tryz.prog 16 [x.av] (AV.bool (neckSafe x)) := by
 refine Fn.intro 138 Tryz.func16 rfl Tryz.ntmps16 rfl (by kernel_rfl) (fun W I a hs => ?_)
 refine wp_seq <| St.region <| hs.o (ok_boxP .tt) fun hs => hs.sc fun hs => wpList_nil <| then_n <| wp_seq <| wp_seq <| St.region ?_
 refine hs.o ((by first | exact ok_loadA ty35 .tt rfl | exact ok_loadS ty35 .tt rfl)) fun hs => ?_
 refine hs.o (ok_call (c_spec_NeckOk x hgl) (args_cons .tt args_nil)) fun hs => hs.o (ok_not .tt) fun hs => wpList_nil <| then_n ?_
 refine hs.cond .tt (fun hb1 => ?_) (fun hb1 => ?_)
 ·replace hb1 := nt hb1
  refine wp_seq <| St.region <| hs.sc fun hs => wpList_nil <| then_n <| wp_ret <| then_r <| hs.ret rfl (.cons (.t rfl) ResL.nil) ?_
  exact ret_bool (by unfold neckSafe; rw [hb1]; rfl)
 ·replace hb1 := nf hb1
  refine wp_skip <| then_n <| wp_seq <| St.region ?_
  refine hs.o ((by first | exact ok_loadA ty35 .tt rfl | exact ok_loadS ty35 .tt rfl)) fun hs => ?_
  refine hs.o (ok_call (c_spec_NeckSide x 0 hgl) (args_cons .tt (args_cons .c args_nil))) fun hs => hs.s fun hs => wpList_nil <| then_n <| wp_seq <| St.region ?_
  refine hs.o ((by first | exact ok_loadA ty35 .tt rfl | exact ok_loadS ty35 .tt rfl)) fun hs => ?_
  refine hs.o (ok_call (c_spec_NeckSide x 1 hgl) (args_cons .tt (args_cons .c args_nil))) fun hs => hs.s fun hs => wpList_nil <| then_n <| wp_seq <| wp_seq <| St.region <| hs.sc fun hs => wpList_nil <| then_n <| wp_block ?_
  refine St.loopS (σ := Nat) (2 :: 5 :: 6 :: 7 :: 18 :: 19 :: 20 :: 21 :: 22 :: 23 :: 24 :: 25 :: 26 :: 27 :: 28 :: 29 :: 30 :: 31 :: 32 :: 33 :: 34 :: 35 :: 36 :: 37 :: 38 :: 39 :: 40 :: 41 :: 42 :: 43 :: 44 :: 45 :: 46 :: 47 :: 48 :: 49 :: 50 :: 51 :: 52 :: 53 :: 54 :: 55 :: 56 :: 57 :: 58 :: 59 :: 60 :: 61 :: 62 :: []) ⟨fun k => [(5, AV.int k)], fun k => [], fun k => k ≤ (sideR x 0).length ∧ ∀ i, i < k → (cross1At (sideR x 0) (sideR x 1)) i = true⟩ (fun k => (sideR x 0).length - k) 0 hs rfl ?ok1 ?env1 ?round1
  case ok1 => exact ⟨Nat.zero_le _, fun i hi => by omega⟩
  case env1 => exact (Env.le_consE rfl (by rfl) Env.le_nil)
  case round1 =>
   rintro k I a w hok hs
   obtain ⟨hk_k, hall⟩ := hok
   refine wp_seq <| wp_seq <| St.region <| hs.m fun hs => hs.m fun hs => ?_
   refine hs.o ((by first | exact ok_lenM un48 .tt | exact ok_len un48 .tt | exact ok_lenV un48 .tt)) fun hs => ?_
   refine hs.o (ok_lss .tt .tt) fun hs => wpList_nil <| then_n ?_
   refine hs.cond .tt (fun hb2 => ?_) (fun hb2 => ?_)
   ·try simp only [B] at hb2
    refine wp_skip <| then_n <| wp_seq <| wp_block <| wp_seq ?_
    have hs := hs.ownGone
    refine hs.drawD [([], none), ([], none), ([], none), ([], none), ([], none), ([], none), ([], none), ([], none), ([], none), ([], none), ([], none), ([], none), ([], none), ([], none), ([], none), ([0], some (0, [6])), ([0], some (0, [6])), ([], none)] (by kernel_rfl) (by kernel_rfl) rfl ?_
    refine RunD.op rfl rfl rfl (fun F a => ok_move .tt) <| RunD.op rfl rfl rfl (fun F a => ok_move .tt) <| RunD.op rfl rfl rfl (fun F a => ok_move .tt) ?_
    refine RunD.op rfl rfl rfl (fun F a => (by first | exact ok_idxN un48 ty94 .tt .tt (fun _ => by exact hb2) | exact ok_idxM un48 ty94 .tt .tt (fun _ => by exact hb2) | exact ok_idx un48 ty94 .tt .tt (fun _ => by exact hb2))) ?_
    refine RunD.op rfl rfl rfl (fun F a => ok_fieldP fd94_0 rfl .tt) <| RunD.op rfl rfl rfl (fun F a => ok_load1 ty3 .tt) <| RunD.op rfl rfl rfl (fun F a => ok_move .tt) <| RunD.op rfl rfl rfl (fun F a => ok_move .tt) ?_
    refine RunD.op rfl rfl rfl (fun F a => (by first | exact ok_idxN un48 ty94 .tt .tt (fun _ => by exact hb2) | exact ok_idxM un48 ty94 .tt .tt (fun _ => by exact hb2) | exact ok_idx un48 ty94 .tt .tt (fun _ => by exact hb2))) ?_
    refine RunD.op rfl rfl rfl (fun F a => ok_fieldP fd94_1 rfl .tt) ?_
    refine RunD.op rfl rfl rfl (fun F a => (by first | exact ok_loadA ty67 .tt rfl | exact ok_loadS ty67 .tt rfl)) ?_
    refine RunD.op rfl rfl rfl (fun F a => ok_call (c_spec_l43At ..) (args_cons .r (args_cons .tt (args_cons .tt args_nil)))) ?_
    refine RunD.op rfl rfl rfl (fun F a => ok_move .tt) <| RunD.op rfl rfl rfl (fun F a => ok_extract .tt rfl) <| RunD.op rfl rfl rfl (fun F a => ok_extract .tt rfl) <| RunD.alloc 0 rfl rfl ty94 zc94 <| RunD.storeN 0 rfl ty94 rfl .tt rfl rfl <| RunD.op rfl rfl rfl (fun F a => ok_assign .tt) <| RunD.nil ?_
    intro I a w hs
    obtain ⟨b6, hs⟩ := hs.openAt (d := 6) 0 rfl rfl
    obtain ⟨I, hs, hf⟩ := hs.freezeBox 0 rfl
    have hs := hs.upd (t := 6) rfl hf; clear hf
    refine then_n <| wp_seq <| hs.dk <| .o (ok_move .tt) <| .o (ok_move .tt) ?_
    refine .q .T ((by first | exact ok_loadA ty94 .tt rfl | exact ok_loadS ty94 .tt rfl)) ?_
    refine .q .T (ok_move .tt) <| .q .T (ok_move .tt) ?_
    refine .q .T ((by first | exact ok_idxN un48 ty94 .ag .ag (fun hg => by exact hb2) | exact ok_idxM un48 ty94 .ag .ag (fun hg => by exact hb2) | exact ok_idx un48 ty94 .ag .ag (fun hg => by exact hb2))) ?_
    refine .q .T ((by first | exact ok_loadA ty94 .ag rfl | exact ok_loadS ty94 .ag rfl)) ?_
    refine .q .T (ok_call (c_spec_l43Same ..) (args_cons .ag (args_cons .ag args_nil))) ?_
    refine .q .T (ok_not .ag) ?_
    refine .o (ok_and .tt .pc .c) <| .o (ok_move .tt) <| .q .F (ok_move .tt) <| .q .F (ok_not .ag) ?_
    refine .q .F (ok_move .ag) ?_
    refine .q .T2 (ok_move .tt) <| .q .T2 (ok_move .tt) ?_
    refine .q .T2 ((by first | exact ok_idxN un48 ty94 .ag .ag (fun hg => by exact hb2) | exact ok_idxM un48 ty94 .ag .ag (fun hg => by exact hb2) | exact ok_idx un48 ty94 .ag .ag (fun hg => by exact hb2))) ?_
    refine .q .T2 (ok_fieldP fd94_1 rfl .ag) ?_
    refine .q .T2 (ok_fieldP fd67_1 rfl .ag) ?_
    refine .q .T2 (ok_load1 ty3 .ag) ?_
    refine .q .T2 (ok_call (c_spec_SiteSide ..) (args_cons .ag args_nil)) ?_
    refine .q .T2 (ok_nei .ag .c) ?_
    refine .q .F (ok_and .ag .pc .c) ?_
    refine .o (ok_or .tt .c .pc) <| RunK.nil ?_
    intro I a w hs
    refine then_n ?_
    refine hs.cond .tt (fun hb3 => ?_) (fun hb3 => ?_)
    ·change (((atV (sideR x 1) (elt (sideR x 0) k).dep).isSome && !verIs ((atV (sideR x 1) (elt (sideR x 0) k).dep).getD default) (elt (sideR x 0) k)) || (!(atV (sideR x 1) (elt (sideR x 0) k).dep).isSome && (siteSide (elt (sideR x 0) k).stamp.site != 0))) = true at hb3; rw [cross1_test] at hb3; replace hb3 := nt hb3
     refine wp_seq <| St.region <| hs.sc fun hs => wpList_nil <| then_n <| wp_ret <| block_r <| then_r <| then_r <| block_r <| then_r <| hs.ret rfl (.cons (.t rfl) ResL.nil) ?_
     exact ret_bool (by rw [safe_split, ← sideR_ok hb1 (s := 0) (by omega) (by omega), ← sideR_ok hb1 (s := 1) (by omega) (by omega), allN_false (f := cross1At (sideR x 0) (sideR x 1)) hb2 hb3]; simp)
    ·change (((atV (sideR x 1) (elt (sideR x 0) k).dep).isSome && !verIs ((atV (sideR x 1) (elt (sideR x 0) k).dep).getD default) (elt (sideR x 0) k)) || (!(atV (sideR x 1) (elt (sideR x 0) k).dep).isSome && (siteSide (elt (sideR x 0) k).stamp.site != 0))) = false at hb3; rw [cross1_test] at hb3; replace hb3 := nf hb3
     refine wp_skip <| block_n <| then_n <| St.region <| hs.m fun hs => ?_
     refine hs.o (ok_add .tt .c (fun _ => by have := sideR_len (x := x) (s := 0) (by omega) (by omega); omega)) fun hs => ?_
     refine hs.s fun hs => wpList_nil <| then_n ?_
     have hs := hs.drop 0
     refine hs.again (k + 1) ?mu1 ?ok1001 (by rfl) ?env1001 (by repeat (first | exact Env.le_rfl | refine Env.le_push rfl ?_))
     case mu1 => omega
     case ok1001 => exact ⟨by omega, allN_next hall hb3⟩
     case env1001 => exact (Env.le_consE rfl (by first | rfl | (congr 1; done)) Env.le_nil)
   ·try simp only [B] at hb2
    refine wp_exit <| then_x <| then_x <| block_hit <| then_n <| wp_seq <| wp_seq <| St.region <| hs.sc fun hs => wpList_nil <| then_n <| wp_block ?_
    refine St.loopS (σ := Nat) (2 :: 8 :: 9 :: 10 :: 63 :: 64 :: 65 :: 66 :: 67 :: 68 :: 69 :: 70 :: 71 :: 72 :: 73 :: 74 :: 75 :: 76 :: 77 :: 78 :: 79 :: 80 :: 81 :: 82 :: 83 :: 84 :: 85 :: 86 :: 87 :: 88 :: 89 :: 90 :: 91 :: 92 :: 93 :: 94 :: 95 :: []) ⟨fun k2 => [(8, AV.int k2)], fun k2 => [], fun k2 => k2 ≤ (sideR x 1).length ∧ ∀ i, i < k2 → (cross2At (sideR x 0) (sideR x 1)) i = true⟩ (fun k2 => (sideR x 1).length - k2) 0 hs rfl ?ok2 ?env2 ?round2
    case ok2 => exact ⟨Nat.zero_le _, fun i hi => by omega⟩
    case env2 => exact (Env.le_consE rfl (by rfl) Env.le_nil)
    case round2 =>
     rintro k2 I a w hok hs
     obtain ⟨hk_k2, hall2⟩ := hok
     refine wp_seq <| wp_seq <| St.region <| hs.m fun hs => hs.m fun hs => ?_
     refine hs.o ((by first | exact ok_lenM un48 .tt | exact ok_len un48 .tt | exact ok_lenV un48 .tt)) fun hs => ?_
     refine hs.o (ok_lss .tt .tt) fun hs => wpList_nil <| then_n ?_
     refine hs.cond .tt (fun hb4 => ?_) (fun hb4 => ?_)
     ·try simp only [B] at hb4
      refine wp_skip <| then_n <| wp_seq <| wp_block <| wp_seq ?_
      have hs := hs.ownGone
      refine hs.drawD [([], none), ([], none), ([], none), ([], none), ([], none), ([], none), ([], none), ([], none), ([], none), ([], none), ([], none), ([], none), ([], none), ([], none), ([], none), ([0], some (0, [9])), ([0], some (0, [9])), ([], none)] (by kernel_rfl) (by kernel_rfl) rfl ?_
      refine RunD.op rfl rfl rfl (fun F a => ok_move .tt) <| RunD.op rfl rfl rfl (fun F a => ok_move .tt) <| RunD.op rfl rfl rfl (fun F a => ok_move .tt) ?_
      refine RunD.op rfl rfl rfl (fun F a => (by first | exact ok_idxN un48 ty94 .tt .tt (fun _ => by exact hb4) | exact ok_idxM un48 ty94 .tt .tt (fun _ => by exact hb4) | exact ok_idx un48 ty94 .tt .tt (fun _ => by exact hb4))) ?_
      refine RunD.op rfl rfl rfl (fun F a => ok_fieldP fd94_0 rfl .tt) <| RunD.op rfl rfl rfl (fun F a => ok_load1 ty3 .tt) <| RunD.op rfl rfl rfl (fun F a => ok_move .tt) <| RunD.op rfl rfl rfl (fun F a => ok_move .tt) ?_
      refine RunD.op rfl rfl rfl (fun F a => (by first | exact ok_idxN un48 ty94 .tt .tt (fun _ => by exact hb4) | exact ok_idxM un48 ty94 .tt .tt (fun _ => by exact hb4) | exact ok_idx un48 ty94 .tt .tt (fun _ => by exact hb4))) ?_
      refine RunD.op rfl rfl rfl (fun F a => ok_fieldP fd94_1 rfl .tt) ?_
      refine RunD.op rfl rfl rfl (fun F a => (by first | exact ok_loadA ty67 .tt rfl | exact ok_loadS ty67 .tt rfl)) ?_
      refine RunD.op rfl rfl rfl (fun F a => ok_call (c_spec_l43At ..) (args_cons .r (args_cons .tt (args_cons .tt args_nil)))) ?_
      refine RunD.op rfl rfl rfl (fun F a => ok_move .tt) <| RunD.op rfl rfl rfl (fun F a => ok_extract .tt rfl) <| RunD.op rfl rfl rfl (fun F a => ok_extract .tt rfl) <| RunD.alloc 0 rfl rfl ty94 zc94 <| RunD.storeN 0 rfl ty94 rfl .tt rfl rfl <| RunD.op rfl rfl rfl (fun F a => ok_assign .tt) <| RunD.nil ?_
      intro I a w hs
      obtain ⟨b9, hs⟩ := hs.openAt (d := 9) 0 rfl rfl
      obtain ⟨I, hs, hf⟩ := hs.freezeBox 0 rfl
      have hs := hs.upd (t := 9) rfl hf; clear hf
      refine then_n <| wp_seq <| St.region <| hs.m fun hs => hs.o (ok_not .tt) fun hs => hs.m fun hs => hs.q .T (ok_move .tt) fun hs => hs.q .T (ok_move .tt) fun hs => ?_
      refine hs.q .T ((by first | exact ok_idxN un48 ty94 .ag .ag (fun hg => by exact hb4) | exact ok_idxM un48 ty94 .ag .ag (fun hg => by exact hb4) | exact ok_idx un48 ty94 .ag .ag (fun hg => by exact hb4))) fun hs => ?_
      refine hs.q .T (ok_fieldP fd94_1 rfl .ag) fun hs => ?_
      refine hs.q .T (ok_fieldP fd67_1 rfl .ag) fun hs => ?_
      refine hs.q .T (ok_load1 ty3 .ag) fun hs => ?_
      refine hs.q .T (ok_call (c_spec_SiteSide ..) (args_cons .ag args_nil)) fun hs => ?_
      refine hs.q .T (ok_nei .ag .c) fun hs => ?_
      refine hs.o (ok_and .tt .pc .c) fun hs => wpList_nil <| then_n ?_
      refine hs.cond .tt (fun hb5 => ?_) (fun hb5 => ?_)
      ·change (!(atV (sideR x 0) (elt (sideR x 1) k2).dep).isSome && (siteSide (elt (sideR x 1) k2).stamp.site != 1)) = true at hb5; rw [cross2_test] at hb5; replace hb5 := nt hb5
       refine wp_seq <| St.region <| hs.sc fun hs => wpList_nil <| then_n <| wp_ret <| block_r <| then_r <| then_r <| block_r <| then_r <| hs.ret rfl (.cons (.t rfl) ResL.nil) ?_
       exact ret_bool (by rw [safe_split, ← sideR_ok hb1 (s := 0) (by omega) (by omega), ← sideR_ok hb1 (s := 1) (by omega) (by omega), allN_false (f := cross2At (sideR x 0) (sideR x 1)) hb4 hb5]; simp)
      ·change (!(atV (sideR x 0) (elt (sideR x 1) k2).dep).isSome && (siteSide (elt (sideR x 1) k2).stamp.site != 1)) = false at hb5; rw [cross2_test] at hb5; replace hb5 := nf hb5
       refine wp_skip <| block_n <| then_n <| St.region <| hs.m fun hs => ?_
       refine hs.o (ok_add .tt .c (fun _ => by have := sideR_len (x := x) (s := 1) (by omega) (by omega); omega)) fun hs => ?_
       refine hs.s fun hs => wpList_nil <| then_n ?_
       have hs := hs.drop 0
       refine hs.again (k2 + 1) ?mu2 ?ok1002 (by rfl) ?env1002 (by repeat (first | exact Env.le_rfl | refine Env.le_push rfl ?_))
       case mu2 => omega
       case ok1002 => exact ⟨by omega, allN_next hall2 hb5⟩
       case env1002 => exact (Env.le_consE rfl (by first | rfl | (congr 1; done)) Env.le_nil)
     ·try simp only [B] at hb4
      refine wp_exit <| then_x <| then_x <| block_hit <| then_n <| wp_seq <| St.region <| hs.m fun hs => ?_
      refine hs.o (ok_call (c_spec_l43Closed ..) (args_cons .r args_nil)) fun hs => ?_
      refine hs.m fun hs => hs.q .T (ok_move .tt) fun hs => hs.q .T (ok_call (c_spec_l43Closed ..) (args_cons .ag args_nil)) fun hs => ?_
      refine hs.o (ok_and .tt .pc .c) fun hs => hs.m fun hs => hs.q .T (ok_move .tt) fun hs => hs.q .T (ok_call (c_spec_l43Once ..) (args_cons .ag args_nil)) fun hs => ?_
      refine hs.o (ok_and .tt .pc .c) fun hs => hs.m fun hs => hs.q .T (ok_move .tt) fun hs => hs.q .T (ok_call (c_spec_l43Once ..) (args_cons .ag args_nil)) fun hs => ?_
      refine hs.o (ok_and .tt .pc .c) fun hs => hs.m fun hs => ?_
      refine hs.q .T ((by first | exact ok_loadA ty35 .tt rfl | exact ok_loadS ty35 .tt rfl)) fun hs => ?_
      refine hs.q .T (ok_call (c_spec_l43Slots x 0 hb1 (by omega)) (args_cons .ag (args_cons .c args_nil))) fun hs => ?_
      refine hs.o (ok_and .tt .pc .c) fun hs => hs.m fun hs => ?_
      refine hs.q .T ((by first | exact ok_loadA ty35 .tt rfl | exact ok_loadS ty35 .tt rfl)) fun hs => ?_
      refine hs.q .T (ok_call (c_spec_l43Slots x 1 hb1 (by omega)) (args_cons .ag (args_cons .c args_nil))) fun hs => ?_
      refine hs.o (ok_and .tt .pc .c) fun hs => hs.m fun hs => ?_
      refine hs.q .T ((by first | exact ok_loadA ty35 .tt rfl | exact ok_loadS ty35 .tt rfl)) fun hs => ?_
      refine hs.q .T (ok_move .tt) fun hs => ?_
      refine hs.q .T (ok_call (c_spec_l43Kept x 0 (sideR x 0) hb1 (by omega)) (args_cons .ag (args_cons .c (args_cons .ag args_nil)))) fun hs => ?_
      refine hs.o (ok_and .tt .pc .c) fun hs => hs.m fun hs => ?_
      refine hs.q .T ((by first | exact ok_loadA ty35 .tt rfl | exact ok_loadS ty35 .tt rfl)) fun hs => ?_
      refine hs.q .T (ok_move .tt) fun hs => ?_
      refine hs.q .T (ok_call (c_spec_l43Kept x 1 (sideR x 1) hb1 (by omega)) (args_cons .ag (args_cons .c (args_cons .ag args_nil)))) fun hs => ?_
      refine hs.o (ok_and .tt .pc .c) fun hs => hs.m fun hs => ?_
      refine hs.q .T ((by first | exact ok_loadA ty35 .tt rfl | exact ok_loadS ty35 .tt rfl)) fun hs => ?_
      refine hs.q .T (ok_move .tt) fun hs => ?_
      refine hs.q .T (ok_call (c_spec_l43Waits x 0 (sideR x 1) hb1 (by omega)) (args_cons .ag (args_cons .c (args_cons .ag args_nil)))) fun hs => ?_
      refine hs.o (ok_and .tt .pc .c) fun hs => hs.m fun hs => ?_
      refine hs.q .T ((by first | exact ok_loadA ty35 .tt rfl | exact ok_loadS ty35 .tt rfl)) fun hs => ?_
      refine hs.q .T (ok_move .tt) fun hs => ?_
      refine hs.q .T (ok_call (c_spec_l43Waits x 1 (sideR x 0) hb1 (by omega)) (args_cons .ag (args_cons .c (args_cons .ag args_nil)))) fun hs => ?_
      refine hs.o (ok_and .tt .pc .c) fun hs => hs.s fun hs => wpList_nil <| then_n <| wp_ret <| hs.ret rfl (.cons (.t rfl) ResL.nil) ?_
      exact ret_bool (by rw [safe_split, ← sideR_ok hb1 (s := 0) (by omega) (by omega), ← sideR_ok hb1 (s := 1) (by omega) (by omega), hb1, allN_true hall (by omega), allN_true hall2 (by omega)]; rfl)

end Go.Proofs.YtlppgilifnkapaaGreat
