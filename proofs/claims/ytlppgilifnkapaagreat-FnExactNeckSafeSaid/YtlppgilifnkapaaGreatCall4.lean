/- Walks: runs. -/
import Derived.Test.YtlppgilifnkapaaGreatCall3
import Derived.Test.YtlppgilifnkapaaGreatServ3
set_option linter.unusedVariables false
set_option linter.unusedSimpArgs false
set_option maxRecDepth 100000
namespace Go.Proofs.YtlppgilifnkapaaGreat
open Go Go.RowKit


theorem ok_callG {P : Program} {H : List Own} {Γ : Env} {g : Bool} {d : Option Tmp} {ty : TypeId} {p : String} {af : Array Edge} {gd : Option (Nat × Bool)} {f : FuncId} {ys : Array Operand} {ts : Array TypeId} {xs : List AV} {res : AV} (hf : g = true → Fn P f xs res) (h : ∀ I a, EnvOk I a Γ → g = true → HoldsA I xs (ys.map a.eval).toList) :
    Ok P H Γ g ⟨d, .call ⟨.value (.func f), ys, ts⟩, ty, p, af, gd⟩ res := fun base I a w K Q he hm hw hg k => ok_call (hf hg) h base I a w K Q he hm hw hg k
theorem step_test3 (l : List Call) (time : Int) (k : Nat) : (!callOk (elt l k) time || (decide (0 < (k : Int)) && decide ((elt l k).begin_ ≤ (elt l ((k : Int) - 1).toNat).begin_))) = !callStep l time k := step_test l time k
theorem clash_yes {d q : Call} (h : d.client = q.client) : (!d.over && ((d.end_ == 0) || decide (q.begin_ ≤ d.end_))) = clash d q := by
  unfold clash; rw [h]; simp
theorem clash_no {d q : Call} (h : ¬ d.client = q.client) : clash d q = false := by
  unfold clash; simp [h]
theorem callAt_eq (l : List Call) (time : Int) (k : Nat) : callAt l time k = ((callStep l time k && ((elt l k).num == cntB l (k + 1) (elt l k).client)) && allN k fun j => !clash (elt l j) (elt l k)) := rfl

set_option maxHeartbeats 4000000 in
theorem c_spec_l41CallsOk (l : List Call) (time : Int) (ht : time ≤ 4611686018427387904) (hgl : ∀ q ∈ l, q.got.length ≤ 1048576) :
    Fn Tryz.prog 95 [callsAV l, AV.int time] (AV.bool (callsOk l time)) := by
 refine Fn.intro 98 Tryz.func95 rfl Tryz.ntmps95 rfl (by kernel_rfl) (fun W I a hs => ?_)
 have hle := hs.lenleM (t := 0) rfl
 refine wp_seq <| St.region <| hs.sc fun hs => wpList_nil <| then_n <| wp_seq <| wp_seq <| St.region <| hs.m fun hs => ?_
 refine hs.o ((by first | exact ok_lenM un32 .tt | exact ok_len un32 .tt | exact ok_lenV un32 .tt)) fun hs => ?_
 refine hs.o (ok_gtr .tt .c) fun hs => wpList_nil <| then_n ?_
 refine hs.cond .tt (fun hb1 => ?_) (fun hb1 => ?_)
 ·try simp only [B] at hb1
  refine wp_seq <| St.region <| hs.sc fun hs => wpList_nil <| then_n <| wp_ret <| then_r <| hs.ret rfl (.cons (.t rfl) ResL.nil) ?_
  exact ret_bool (by unfold callsOk; rw [len20' hb1]; simp)
 ·try simp only [B] at hb1
  refine wp_skip <| then_n <| wp_seq <| wp_seq <| St.region <| hs.sc fun hs => wpList_nil <| then_n <| wp_block ?_
  refine St.loopS (σ := Nat) (4 :: 5 :: 6 :: 7 :: 11 :: 12 :: 13 :: 14 :: 15 :: 16 :: 17 :: 18 :: 19 :: 20 :: 21 :: 22 :: 23 :: 24 :: 25 :: 26 :: 27 :: 28 :: 29 :: 30 :: 31 :: 32 :: 33 :: 34 :: 35 :: 36 :: 37 :: 38 :: 39 :: 40 :: 41 :: 42 :: 43 :: 44 :: 45 :: 46 :: 47 :: 48 :: 49 :: 50 :: 51 :: 52 :: 53 :: 54 :: 55 :: 56 :: 57 :: 58 :: 59 :: 60 :: 61 :: 62 :: 63 :: 64 :: 65 :: 66 :: 67 :: 68 :: 69 :: 70 :: 71 :: 72 :: 73 :: 74 :: 75 :: 76 :: 77 :: 78 :: 79 :: 80 :: 81 :: 82 :: 83 :: 84 :: 85 :: 86 :: 87 :: 88 :: 89 :: 90 :: 91 :: 92 :: 93 :: 94 :: 95 :: 96 :: 97 :: []) ⟨fun k => [(5, AV.int k)], fun k => [], fun k => k ≤ l.length ∧ ∀ i, i < k → (callAt l time) i = true⟩ (fun k => l.length - k) 0 hs rfl ?ok1 ?env1 ?round1
  case ok1 => exact ⟨Nat.zero_le _, fun i hi => by omega⟩
  case env1 => exact (Env.le_consE rfl (by rfl) Env.le_nil)
  case round1 =>
   rintro k I a w hok hs
   obtain ⟨hk_k, hall⟩ := hok
   refine wp_seq <| wp_seq <| St.region <| hs.m fun hs => hs.m fun hs => ?_
   refine hs.o ((by first | exact ok_lenM un32 .tt | exact ok_len un32 .tt | exact ok_lenV un32 .tt)) fun hs => ?_
   refine hs.o (ok_lss .tt .tt) fun hs => wpList_nil <| then_n ?_
   refine hs.cond .tt (fun hb2 => ?_) (fun hb2 => ?_)
   ·try simp only [B] at hb2
    refine wp_skip <| then_n <| wp_seq <| wp_block <| wp_seq <| wp_seq <| hs.dk <| .o (ok_move .tt) <| .o (ok_move .tt) ?_
    refine .o ((by first | exact ok_idxN un32 ty70 .tt .tt (fun _ => by exact hb2) | exact ok_idxM un32 ty70 .tt .tt (fun _ => by exact hb2) | exact ok_idx un32 ty70 .tt .tt (fun _ => by exact hb2))) ?_
    refine .o ((by first | exact ok_loadA ty70 .tt rfl | exact ok_loadS ty70 .tt rfl)) ?_
    refine .o (ok_move .tt) <| .o (ok_call (c_spec_CallOk _ _ ht (hgl _ (elt_mem hb2))) (args_cons .tt (args_cons .tt args_nil))) <| .o (ok_not .tt) <| .o (ok_move .tt) <| .q .F (ok_move .tt) <| .q .F (ok_gtr .ag .c) ?_
    refine .q .F (ok_move .ag) ?_
    refine .q .T2 (ok_move .tt) <| .q .T2 (ok_move .tt) ?_
    refine .q .T2 (ok_sub .ag .c (fun hg => by simp at hg; omega)) ?_
    refine .q .T2 ((by first | exact ok_idxN un32 ty70 .ag .ag (fun hg => by simp at hg; omega) | exact ok_idxM un32 ty70 .ag .ag (fun hg => by simp at hg; omega) | exact ok_idx un32 ty70 .ag .ag (fun hg => by simp at hg; omega))) ?_
    refine .q .T2 (ok_fieldP fd70_6 rfl .ag) ?_
    refine .q .T2 (ok_load1 ty3 .ag) ?_
    refine .q .T2 (ok_move .tt) <| .q .T2 (ok_move .tt) ?_
    refine .q .T2 ((by first | exact ok_idxN un32 ty70 .ag .ag (fun hg => by exact hb2) | exact ok_idxM un32 ty70 .ag .ag (fun hg => by exact hb2) | exact ok_idx un32 ty70 .ag .ag (fun hg => by exact hb2))) ?_
    refine .q .T2 (ok_fieldP fd70_6 rfl .ag) ?_
    refine .q .T2 (ok_load1 ty3 .ag) ?_
    refine .q .T2 (ok_geq .ag .ag) ?_
    refine .q .F (ok_and .ag .pc .c) ?_
    refine .o (ok_or .tt .c .pc) <| RunK.nil ?_
    intro I a w hs
    refine then_n ?_
    refine hs.cond .tt (fun hb3 => ?_) (fun hb3 => ?_)
    ·rw [step_test3] at hb3; replace hb3 := nt hb3
     refine wp_seq <| St.region <| hs.sc fun hs => wpList_nil <| then_n <| wp_ret <| then_r <| block_r <| then_r <| then_r <| block_r <| then_r <| hs.ret rfl (.cons (.t rfl) ResL.nil) ?_
     exact ret_bool (by unfold callsOk; rw [allN_false (f := callAt l time) hb2 (by rw [callAt_eq, hb3]; rfl)]; rfl)
    ·rw [step_test3] at hb3; replace hb3 := nf hb3
     refine wp_skip <| then_n <| wp_seq <| St.region <| hs.sc fun hs => wpList_nil <| then_n <| wp_seq <| wp_seq <| St.region <| hs.sc fun hs => wpList_nil <| then_n <| wp_block ?_
     refine St.loopS (σ := Nat) (4 :: 6 :: 7 :: 42 :: 43 :: 44 :: 45 :: 46 :: 47 :: 48 :: 49 :: 50 :: 51 :: 52 :: 53 :: 54 :: 55 :: 56 :: 57 :: 58 :: 59 :: 60 :: 61 :: 62 :: 63 :: 64 :: 65 :: 66 :: 67 :: 68 :: 69 :: 70 :: 71 :: 72 :: 73 :: 74 :: 75 :: 76 :: 77 :: 78 :: 79 :: 80 :: 81 :: 82 :: 83 :: 84 :: 85 :: 86 :: 87 :: 88 :: 89 :: []) ⟨fun k2 => [(7, AV.int k2), (6, AV.int (cntB l k2 (elt l k).client))], fun k2 => [], fun k2 => k2 ≤ k ∧ ∀ i, i < k2 → (fun j => !clash (elt l j) (elt l k)) i = true⟩ (fun k2 => k - k2) 0 hs rfl ?ok2 ?env2 ?round2
     case ok2 => exact ⟨Nat.zero_le _, fun i hi => by omega⟩
     case env2 => exact (Env.le_consE rfl (by rfl) (Env.le_consE rfl (by rfl) Env.le_nil))
     case round2 =>
      rintro k2 I a w hok hs
      obtain ⟨hk_k2, hall2⟩ := hok
      refine wp_seq <| wp_seq <| St.region <| hs.m fun hs => hs.m fun hs => hs.o (ok_lss .tt .tt) fun hs => wpList_nil <| then_n ?_
      refine hs.cond .tt (fun hb4 => ?_) (fun hb4 => ?_)
      ·try simp only [B] at hb4
       refine wp_skip <| then_n <| wp_seq <| wp_block <| wp_seq <| wp_seq <| hs.dk <| .o (ok_move .tt) <| .o (ok_move .tt) ?_
       refine .o ((by first | exact ok_idxN un32 ty70 .tt .tt (fun _ => by omega) | exact ok_idxM un32 ty70 .tt .tt (fun _ => by omega) | exact ok_idx un32 ty70 .tt .tt (fun _ => by omega))) ?_
       refine .o (ok_fieldP fd70_0 rfl .tt) <| .o (ok_load1 ty3 .tt) <| .o (ok_move .tt) <| .o (ok_move .tt) ?_
       refine .o ((by first | exact ok_idxN un32 ty70 .tt .tt (fun _ => by exact hb2) | exact ok_idxM un32 ty70 .tt .tt (fun _ => by exact hb2) | exact ok_idx un32 ty70 .tt .tt (fun _ => by exact hb2))) ?_
       refine .o (ok_fieldP fd70_0 rfl .tt) <| .o (ok_load1 ty3 .tt) <| .o (ok_nei .tt .tt) <| RunK.nil ?_
       intro I a w hs
       refine then_n ?_
       refine hs.cond .tt (fun hb5 => ?_) (fun hb5 => ?_)
       ·try simp only [B] at hb5
        refine wp_exit <| then_x <| block_hit <| then_n <| St.region <| hs.m fun hs => ?_
        refine hs.o (ok_add .tt .c (fun _ => by omega)) fun hs => ?_
        refine hs.s fun hs => wpList_nil <| then_n ?_
        refine hs.again (k2 + 1) ?mu1 ?ok1001 (by rfl) ?env1001 (by repeat (first | exact Env.le_rfl | refine Env.le_push rfl ?_))
        case mu1 => omega
        case ok1001 => exact ⟨by omega, allN_next hall2 (by show (!clash (elt l k2) (elt l k)) = true; rw [clash_no hb5]; rfl)⟩
        case env1001 => exact (Env.le_consE rfl (by rfl) (Env.le_consE rfl (by first | exact congrArg AV.int (by rw [cntB_succ (by omega), if_neg hb5]) | exact congrArg AV.int (by rw [callAt_num (hall k2 (by omega)), show (elt l k2).client = (elt l k).client by omega])) Env.le_nil))
       ·try simp only [B] at hb5
        refine wp_skip <| then_n <| wp_seq <| St.region <| hs.m fun hs => hs.m fun hs => ?_
        refine hs.o ((by first | exact ok_idxN un32 ty70 .tt .tt (fun _ => by omega) | exact ok_idxM un32 ty70 .tt .tt (fun _ => by omega) | exact ok_idx un32 ty70 .tt .tt (fun _ => by omega))) fun hs => ?_
        refine hs.o (ok_fieldP fd70_1 rfl .tt) fun hs => hs.o (ok_load1 ty3 .tt) fun hs => hs.s fun hs => wpList_nil <| then_n <| wp_seq <| hs.dk <| .o (ok_move .tt) <| .o (ok_move .tt) ?_
        refine .o ((by first | exact ok_idxN un32 ty70 .tt .tt (fun _ => by omega) | exact ok_idxM un32 ty70 .tt .tt (fun _ => by omega) | exact ok_idx un32 ty70 .tt .tt (fun _ => by omega))) ?_
        refine .o (ok_fieldP fd70_8 rfl .tt) <| .o (ok_load1 ty4 .tt) <| .o (ok_not .tt) <| .o (ok_move .tt) <| .q .T (ok_move .tt) <| .q .T (ok_move .tt) ?_
        refine .q .T ((by first | exact ok_idxN un32 ty70 .ag .ag (fun hg => by omega) | exact ok_idxM un32 ty70 .ag .ag (fun hg => by omega) | exact ok_idx un32 ty70 .ag .ag (fun hg => by omega))) ?_
        refine .q .T (ok_fieldP fd70_7 rfl .ag) ?_
        refine .q .T (ok_load1 ty3 .ag) ?_
        refine .q .T (ok_eqi .ag .c) ?_
        refine .q .T (ok_move .ag) ?_
        refine .q .F2 (ok_move .tt) <| .q .F2 (ok_move .tt) ?_
        refine .q .F2 ((by first | exact ok_idxN un32 ty70 .ag .ag (fun hg => by omega) | exact ok_idxM un32 ty70 .ag .ag (fun hg => by omega) | exact ok_idx un32 ty70 .ag .ag (fun hg => by omega))) ?_
        refine .q .F2 (ok_fieldP fd70_7 rfl .ag) ?_
        refine .q .F2 (ok_load1 ty3 .ag) ?_
        refine .q .F2 (ok_move .tt) <| .q .F2 (ok_move .tt) ?_
        refine .q .F2 ((by first | exact ok_idxN un32 ty70 .ag .ag (fun hg => by exact hb2) | exact ok_idxM un32 ty70 .ag .ag (fun hg => by exact hb2) | exact ok_idx un32 ty70 .ag .ag (fun hg => by exact hb2))) ?_
        refine .q .F2 (ok_fieldP fd70_6 rfl .ag) ?_
        refine .q .F2 (ok_load1 ty3 .ag) ?_
        refine .q .F2 (ok_geq .ag .ag) ?_
        refine .q .T (ok_or .ag .c .pc) ?_
        refine .o (ok_and .tt .pc .c) <| RunK.nil ?_
        intro I a w hs
        refine then_n ?_
        refine hs.cond .tt (fun hb6 => ?_) (fun hb6 => ?_)
        ·rw [clash_yes (by omega)] at hb6
         refine wp_seq <| St.region <| hs.sc fun hs => wpList_nil <| then_n <| wp_ret <| block_r <| then_r <| then_r <| block_r <| then_r <| block_r <| then_r <| then_r <| block_r <| then_r <| hs.ret rfl (.cons (.t rfl) ResL.nil) ?_
         exact ret_bool (by unfold callsOk; rw [allN_false (f := callAt l time) hb2 (by rw [callAt_eq, allN_false (f := fun j => !clash (elt l j) (elt l k)) (k := k2) (by omega) (by rw [hb6]; rfl)]; simp)]; rfl)
        ·rw [clash_yes (by omega)] at hb6
         refine wp_skip <| block_n <| then_n <| St.region <| hs.m fun hs => ?_
         refine hs.o (ok_add .tt .c (fun _ => by omega)) fun hs => ?_
         refine hs.s fun hs => wpList_nil <| then_n ?_
         refine hs.again (k2 + 1) ?mu2 ?ok1002 (by rfl) ?env1002 (by repeat (first | exact Env.le_rfl | refine Env.le_push rfl ?_))
         case mu2 => omega
         case ok1002 => exact ⟨by omega, allN_next hall2 (by show (!clash (elt l k2) (elt l k)) = true; rw [hb6]; rfl)⟩
         case env1002 => exact (Env.le_consE rfl (by rfl) (Env.le_consE rfl (by first | exact congrArg AV.int (by rw [cntB_succ (by omega), if_neg hb5]) | exact congrArg AV.int (by rw [callAt_num (hall k2 (by omega)), show (elt l k2).client = (elt l k).client by omega])) Env.le_nil))
      ·try simp only [B] at hb4
       refine wp_exit <| then_x <| then_x <| block_hit <| then_n <| wp_seq <| St.region <| hs.m fun hs => hs.m fun hs => ?_
       refine hs.o ((by first | exact ok_idxN un32 ty70 .tt .tt (fun _ => by exact hb2) | exact ok_idxM un32 ty70 .tt .tt (fun _ => by exact hb2) | exact ok_idx un32 ty70 .tt .tt (fun _ => by exact hb2))) fun hs => ?_
       refine hs.o (ok_fieldP fd70_1 rfl .tt) fun hs => hs.o (ok_load1 ty3 .tt) fun hs => hs.m fun hs => ?_
       refine hs.o (ok_add .tt .c (fun _ => by have := cntB_le l k2 (elt l k).client; omega)) fun hs => ?_
       refine hs.o (ok_nei .tt .tt) fun hs => wpList_nil <| then_n ?_
       refine hs.cond .tt (fun hb7 => ?_) (fun hb7 => ?_)
       ·try simp only [B] at hb7
        refine wp_seq <| St.region <| hs.sc fun hs => wpList_nil <| then_n <| wp_ret <| block_r <| then_r <| then_r <| block_r <| then_r <| hs.ret rfl (.cons (.t rfl) ResL.nil) ?_
        exact ret_bool (by unfold callsOk; rw [allN_false (f := callAt l time) hb2 (by rw [callAt_eq, cntB_succ hb2, if_pos rfl, show ((elt l k).num == cntB l k (elt l k).client + 1) = false by (rw [show k2 = k by omega] at hb7; simpa using hb7)]; simp)]; rfl)
       ·try simp only [B] at hb7
        refine wp_skip <| block_n <| then_n <| St.region <| hs.m fun hs => ?_
        refine hs.o (ok_add .tt .c (fun _ => by omega)) fun hs => ?_
        refine hs.s fun hs => wpList_nil <| then_n ?_
        refine hs.again (k + 1) ?mu3 ?ok1003 (by rfl) ?env1003 (by repeat (first | exact Env.le_rfl | refine Env.le_push rfl ?_))
        case mu3 => omega
        case ok1003 => exact ⟨by omega, allN_next hall (by rw [callAt_eq, hb3, allN_true hall2 (by omega)]; simp only [Bool.true_and, Bool.and_true, beq_iff_eq]; rw [cntB_succ hb2, if_pos rfl]; rw [show k2 = k by omega] at hb7; omega)⟩
        case env1003 => exact (Env.le_consE rfl (by first | rfl | (congr 1; done)) Env.le_nil)
   ·try simp only [B] at hb2
    refine wp_exit <| then_x <| then_x <| block_hit <| then_n <| wp_seq <| St.region <| hs.sc fun hs => wpList_nil <| then_n <| wp_ret <| hs.ret rfl (.cons (.t rfl) ResL.nil) ?_
    exact ret_bool (by unfold callsOk; rw [allN_true hall (by omega)]; simp; omega)


theorem neckHead_time {x : Neck} (h : neckHead x = true) : 0 ≤ x.time ∧ x.time ≤ 99999 := by
  simp only [neckHead, Bool.not_eq_true', Bool.or_eq_false_iff] at h
  have := h.1.1.1
  simp [inB] at this; exact this
theorem head_calls (x : Neck) : (!inB x.time 0 99999 || ((x.servers.length : Int) != 4) || decide (60 < (x.radio.length : Int)) || ((x.seen.length : Int) != 2) || !callsOk x.calls x.time) = !(neckHead x && callsOk x.calls x.time) := by
  unfold neckHead; simp
theorem seen_allN (l : List (List Dep)) : (!hasB depsBad l) = allN l.length fun i => depsOk (elt l i) := by
  rw [hasB_allN]; exact allN_congr rfl fun i _ => by simp [depsBad]
theorem radio_allN (l : List Word) : (!hasB wordBad l) = allN l.length fun i => wordOk (elt l i) := by
  rw [hasB_allN]; exact allN_congr rfl fun i _ => by simp [wordBad]

theorem c_impl_NeckOk_1 (m : Word) (h1 : i64r m.frm) (h2 : i64r m.to) :
    Fn Tryz.prog 111 [m.av] (AV.bool (wordBad m)) := by
 refine Fn.intro 6 Tryz.func111 rfl Tryz.ntmps111 rfl (by kernel_rfl) (fun W I a hs => ?_)
 refine wp_seq <| St.region <| hs.o (ok_boxP .tt) fun hs => hs.sc fun hs => wpList_nil <| then_n <| wp_seq <| St.region ?_
 refine hs.o ((by first | exact ok_loadA ty137 .tt rfl | exact ok_loadS ty137 .tt rfl)) fun hs => ?_
 refine hs.o (ok_call (c_impl_WordOk _ h1 h2) (args_cons .tt args_nil)) fun hs => hs.o (ok_not .tt) fun hs => hs.s fun hs => wpList_nil <| then_n <| wp_ret <| hs.ret rfl (.cons (.t rfl) ResL.nil) ?_
 rfl

theorem c_impl_NeckOk_2 (l : List Dep) :
    Fn Tryz.prog 114 [depsAV l] (AV.bool (depsBad l)) := by
 refine Fn.intro 6 Tryz.func114 rfl Tryz.ntmps114 rfl (by kernel_rfl) (fun W I a hs => ?_)
 refine wp_seq <| St.region <| hs.sc fun hs => wpList_nil <| then_n <| wp_seq <| St.region <| hs.m fun hs => ?_
 refine hs.o (ok_call (c_impl_DepsOk ..) (args_cons .r args_nil)) fun hs => ?_
 refine hs.o (ok_not .tt) fun hs => hs.s fun hs => wpList_nil <| then_n <| wp_ret <| hs.ret rfl (.cons (.t rfl) ResL.nil) ?_
 rfl

set_option maxHeartbeats 4000000 in
theorem c_impl_NeckOk (x : Neck) (hf : x.Fit) (hl : x.calls.length ≤ 1048576) :
    Fn Tryz.prog 45 [x.av] (AV.bool (neckOk x)) := by
 refine Fn.intro 62 Tryz.func45 rfl Tryz.ntmps45 rfl (by kernel_rfl) (fun W I a hs => ?_)
 have lens : x.servers.length ≤ 9223372036854775807 ∧ x.radio.length ≤ 9223372036854775807 ∧ x.calls.length ≤ 9223372036854775807 ∧ x.seen.length ≤ 9223372036854775807 := by
    obtain ⟨cs, _, hc⟩ := hs.env 0 _ rfl
    obtain ⟨u1, _, h1, _⟩ := hc.get (i := 1) rfl
    obtain ⟨u2, _, h2, _⟩ := hc.get (i := 2) rfl
    obtain ⟨u3, _, h3, _⟩ := hc.get (i := 3) rfl
    obtain ⟨u4, _, h4, _⟩ := hc.get (i := 4) rfl
    exact ⟨rows_le h1, rows_le h2, rows_le h3, rows_le h4⟩
 refine wp_seq <| St.region <| hs.o (ok_boxP .tt) fun hs => hs.sc fun hs => wpList_nil <| then_n <| wp_seq <| wp_seq <| St.region <| hs.o (ok_fieldP fd35_0 rfl .tt) fun hs => hs.o (ok_load1 ty3 .tt) fun hs => hs.o (ok_call (c_impl_in ..) (args_cons .tt (args_cons .c (args_cons .c args_nil)))) fun hs => hs.o (ok_not .tt) fun hs => hs.m fun hs => hs.q .F (ok_fieldP fd35_1 rfl .tt) fun hs => hs.q .F (ok_load1 ty30 .ag) fun hs => ?_
 refine hs.q .F ((by first | exact ok_lenM un30 .ag | exact ok_len un30 .ag | exact ok_lenV un30 .ag)) fun hs => ?_
 refine hs.q .F (ok_nei .ag .c) fun hs => ?_
 refine hs.o (ok_or .tt .c .pc) fun hs => hs.m fun hs => hs.q .F (ok_fieldP fd35_2 rfl .tt) fun hs => hs.q .F (ok_load1 ty31 .ag) fun hs => ?_
 refine hs.q .F ((by first | exact ok_lenM un31 .ag | exact ok_len un31 .ag | exact ok_lenV un31 .ag)) fun hs => ?_
 refine hs.q .F (ok_gtr .ag .c) fun hs => ?_
 refine hs.o (ok_or .tt .c .pc) fun hs => hs.m fun hs => hs.q .F (ok_fieldP fd35_4 rfl .tt) fun hs => hs.q .F (ok_load1 ty33 .ag) fun hs => ?_
 refine hs.q .F ((by first | exact ok_lenM un33 .ag | exact ok_len un33 .ag | exact ok_lenV un33 .ag)) fun hs => ?_
 refine hs.q .F (ok_nei .ag .c) fun hs => ?_
 refine hs.o (ok_or .tt .c .pc) fun hs => wpList_nil <| then_n ?_
 refine hs.cond .tt (fun hb1 => ?_) (fun hb1 => ?_)
 ·replace hb1 : neckHead x = false := by unfold neckHead; rw [hb1]; rfl
  refine wp_seq <| St.region <| hs.sc fun hs => wpList_nil <| then_n <| wp_ret <| then_r <| hs.ret rfl (.cons (.t rfl) ResL.nil) ?_
  exact ret_bool (by unfold neckOk; rw [hb1]; rfl)
 ·replace hb1 : neckHead x = true := by unfold neckHead; rw [hb1]; rfl
  refine wp_skip <| then_n <| wp_seq <| wp_seq <| St.region <| hs.o (ok_fieldP fd35_1 rfl .tt) fun hs => hs.o (ok_load1 ty30 .tt) fun hs => ?_
  refine hs.o ((by first | exact ok_lenM un30 .tt | exact ok_len un30 .tt | exact ok_lenV un30 .tt)) fun hs => ?_
  refine hs.mc fun hs => wpList_nil <| then_n <| wp_block ?_
  refine St.loopS (σ := Nat) (2 :: 3 :: 4 :: 30 :: 31 :: 32 :: 33 :: 34 :: 35 :: 36 :: 37 :: 38 :: 39 :: 40 :: 41 :: 42 :: 43 :: 44 :: []) ⟨fun k => [(30, AV.int k)], fun k => [], fun k => k ≤ x.servers.length ∧ ∀ i, i < k → (siteAt x) i = true⟩ (fun k => x.servers.length - k) 0 hs rfl ?ok1 ?env1 ?round1
  case ok1 => exact ⟨Nat.zero_le _, fun i hi => by omega⟩
  case env1 => exact (Env.le_consE rfl (by rfl) Env.le_nil)
  case round1 =>
   rintro k I a w hok hs
   obtain ⟨hk_k, hall⟩ := hok
   refine wp_seq <| St.region <| hs.o (ok_lss .tt .tt) fun hs => wpList_nil <| then_n <| wp_seq ?_
   refine hs.cond .tt (fun hb2 => ?_) (fun hb2 => ?_)
   ·try simp only [B] at hb2
    refine wp_skip <| then_n <| wp_seq <| wp_block <| wp_seq <| St.region <| hs.m fun hs => ?_
    refine hs.o ((by first | exact ok_idxN un30 ty89 .tt .tt (fun _ => by exact hb2) | exact ok_idxM un30 ty89 .tt .tt (fun _ => by exact hb2) | exact ok_idx un30 ty89 .tt .tt (fun _ => by exact hb2))) fun hs => ?_
    refine hs.o ((by first | exact ok_loadA ty89 .tt rfl | exact ok_loadS ty89 .tt rfl)) fun hs => ?_
    refine hs.alloc rfl ty89 zc89 fun b4 I a w hs => hs.s fun hs => ?_
    refine hs.storeB 0 ty89 .tt .tt rfl (by first | rfl | assumption) rfl fun a w hs => ?_
    obtain ⟨I, hs, hf⟩ := hs.freezeBox 0 rfl
    have hs := hs.upd (t := 4) rfl hf; clear hf
    refine wpList_nil <| then_n <| wp_seq <| St.region <| hs.o (ok_fieldP fd89_0 rfl .tt) fun hs => hs.o (ok_load1 ty3 .tt) fun hs => hs.m fun hs => hs.o (ok_nei .tt .tt) fun hs => hs.m fun hs => ?_
    refine hs.q .F ((by first | exact ok_loadA ty89 .tt rfl | exact ok_loadS ty89 .tt rfl)) fun hs => ?_
    refine hs.q .F (ok_call (c_impl_ServerOk ..) (args_cons .ag args_nil)) fun hs => ?_
    refine hs.q .F (ok_not .ag) fun hs => ?_
    refine hs.o (ok_or .tt .c .pc) fun hs => wpList_nil <| then_n ?_
    refine hs.cond .tt (fun hb3 => ?_) (fun hb3 => ?_)
    ·rw [site_test] at hb3; replace hb3 := nt hb3
     refine wp_seq <| St.region <| hs.sc fun hs => wpList_nil <| then_n <| wp_ret <| block_r <| then_r <| then_r <| block_r <| then_r <| hs.ret rfl (.cons (.t rfl) ResL.nil) ?_
     exact ret_bool (by unfold neckOk; rw [allN_false (f := siteAt x) hb2 hb3]; simp)
    ·rw [site_test] at hb3; replace hb3 := nf hb3
     refine wp_skip <| block_n <| then_n <| St.region ?_
     refine hs.o (ok_add .tt .c (fun _ => by omega)) fun hs => ?_
     refine hs.m fun hs => wpList_nil <| then_n ?_
     have hs := hs.drop 0
     refine hs.again (k + 1) ?mu1 ?ok1001 (by rfl) ?env1001 (by repeat (first | exact Env.le_rfl | refine Env.le_push rfl ?_))
     case mu1 => omega
     case ok1001 => exact ⟨by omega, allN_next hall hb3⟩
     case env1001 => exact (Env.le_consE rfl (by first | rfl | (congr 1; done)) Env.le_nil)
   ·try simp only [B] at hb2
    refine wp_exit <| then_x <| then_x <| block_hit <| then_n <| wp_seq <| St.region <| hs.o (ok_fieldP fd35_2 rfl .tt) fun hs => hs.o (ok_load1 ty31 .tt) fun hs => ?_
    refine hs.o (ok_call (c_slices_ContainsFunc_impl_Word_impl_Word x.radio wordBad _ (fun m hm => Fn.valF (c_impl_NeckOk_1 m (hf.1 m hm).1 (hf.1 m hm).2))) (args_cons .r (args_cons .f args_nil))) fun hs => ?_
    refine hs.o (ok_not .tt) fun hs => hs.m fun hs => hs.q .T (ok_fieldP fd35_4 rfl .tt) fun hs => hs.q .T (ok_load1 ty33 .ag) fun hs => ?_
    refine hs.q .T (ok_call (c_slices_ContainsFunc_impl_Dep_impl_Dep_2 x.seen depsBad _ (fun m _ => Fn.valF (c_impl_NeckOk_2 m))) (args_cons .ag (args_cons .f args_nil))) fun hs => ?_
    refine hs.q .T (ok_not .ag) fun hs => ?_
    refine hs.o (ok_and .tt .pc .c) fun hs => hs.m fun hs => hs.q .T (ok_fieldP fd35_3 rfl .tt) fun hs => hs.q .T (ok_load1 ty32 .ag) fun hs => ?_
    refine hs.q .T (ok_fieldP fd35_0 rfl .tt) fun hs => hs.q .T (ok_load1 ty3 .ag) fun hs => ?_
    refine hs.q .T (ok_call (c_impl_callsFit x.calls x.time (by have := neckHead_time hb1; omega) hl hf.2) (args_cons .ag (args_cons .ag args_nil))) fun hs => ?_
    refine hs.o (ok_and .tt .pc .c) fun hs => hs.s fun hs => wpList_nil <| then_n <| wp_ret <| hs.ret rfl (.cons (.t rfl) ResL.nil) ?_
    exact ret_bool (by unfold neckOk; rw [hb1, allN_true hall (by omega)]; rfl)

set_option maxHeartbeats 4000000 in
theorem c_spec_NeckOk (x : Neck) (hgl : ∀ q ∈ x.calls, q.got.length ≤ 1048576) :
    Fn Tryz.prog 38 [x.av] (AV.bool (neckOk x)) := by
 refine Fn.intro 88 Tryz.func38 rfl Tryz.ntmps38 rfl (by kernel_rfl) (fun W I a hs => ?_)
 have lens : x.servers.length ≤ 9223372036854775807 ∧ x.radio.length ≤ 9223372036854775807 ∧ x.calls.length ≤ 9223372036854775807 ∧ x.seen.length ≤ 9223372036854775807 := by
    obtain ⟨cs, _, hc⟩ := hs.env 0 _ rfl
    obtain ⟨u1, _, h1, _⟩ := hc.get (i := 1) rfl
    obtain ⟨u2, _, h2, _⟩ := hc.get (i := 2) rfl
    obtain ⟨u3, _, h3, _⟩ := hc.get (i := 3) rfl
    obtain ⟨u4, _, h4, _⟩ := hc.get (i := 4) rfl
    exact ⟨rows_le h1, rows_le h2, rows_le h3, rows_le h4⟩
 refine wp_seq <| St.region <| hs.o (ok_boxP .tt) fun hs => hs.sc fun hs => wpList_nil <| then_n <| wp_seq <| wp_seq <| St.region <| hs.o (ok_fieldP fd35_0 rfl .tt) fun hs => hs.o (ok_load1 ty3 .tt) fun hs => hs.o (ok_call (c_spec_l6In ..) (args_cons .tt (args_cons .c (args_cons .c args_nil)))) fun hs => hs.o (ok_not .tt) fun hs => hs.m fun hs => hs.q .F (ok_fieldP fd35_1 rfl .tt) fun hs => hs.q .F (ok_load1 ty30 .ag) fun hs => ?_
 refine hs.q .F ((by first | exact ok_lenM un30 .ag | exact ok_len un30 .ag | exact ok_lenV un30 .ag)) fun hs => ?_
 refine hs.q .F (ok_nei .ag .c) fun hs => ?_
 refine hs.o (ok_or .tt .c .pc) fun hs => hs.m fun hs => hs.q .F (ok_fieldP fd35_2 rfl .tt) fun hs => hs.q .F (ok_load1 ty31 .ag) fun hs => ?_
 refine hs.q .F ((by first | exact ok_lenM un31 .ag | exact ok_len un31 .ag | exact ok_lenV un31 .ag)) fun hs => ?_
 refine hs.q .F (ok_gtr .ag .c) fun hs => ?_
 refine hs.o (ok_or .tt .c .pc) fun hs => hs.m fun hs => hs.q .F (ok_fieldP fd35_4 rfl .tt) fun hs => hs.q .F (ok_load1 ty33 .ag) fun hs => ?_
 refine hs.q .F ((by first | exact ok_lenM un33 .ag | exact ok_len un33 .ag | exact ok_lenV un33 .ag)) fun hs => ?_
 refine hs.q .F (ok_nei .ag .c) fun hs => ?_
 refine hs.o (ok_or .tt .c .pc) fun hs => hs.m fun hs => hs.q .F (ok_fieldP fd35_3 rfl .tt) fun hs => hs.q .F (ok_load1 ty32 .ag) fun hs => ?_
 refine hs.q .F (ok_fieldP fd35_0 rfl .tt) fun hs => hs.q .F (ok_load1 ty3 .ag) fun hs => ?_
 refine hs.q .F (ok_callG (fun hg => c_spec_l41CallsOk x.calls x.time (by simp [inB] at hg; omega) hgl) (args_cons .ag (args_cons .ag args_nil))) fun hs => ?_
 refine hs.q .F (ok_not .ag) fun hs => ?_
 refine hs.o (ok_or .tt .c .pc) fun hs => wpList_nil <| then_n ?_
 refine hs.cond .tt (fun hb1 => ?_) (fun hb1 => ?_)
 ·rw [head_calls] at hb1; replace hb1 := nt hb1
  refine wp_seq <| St.region <| hs.sc fun hs => wpList_nil <| then_n <| wp_ret <| then_r <| hs.ret rfl (.cons (.t rfl) ResL.nil) ?_
  exact ret_bool (by unfold neckOk; rw [seen_allN, radio_allN]; revert hb1; cases neckHead x <;> cases callsOk x.calls x.time <;> simp)
 ·rw [head_calls] at hb1; replace hb1 := nf hb1
  refine wp_skip <| then_n <| wp_seq <| wp_seq <| St.region <| hs.sc fun hs => wpList_nil <| then_n <| wp_block ?_
  refine St.loopS (σ := Nat) (2 :: 3 :: 36 :: 37 :: 38 :: 39 :: 40 :: 41 :: 42 :: 43 :: 44 :: 45 :: 46 :: 47 :: 48 :: 49 :: 50 :: 51 :: 52 :: 53 :: 54 :: 55 :: 56 :: 57 :: 58 :: 59 :: []) ⟨fun k => [(3, AV.int k)], fun k => [], fun k => k ≤ x.servers.length ∧ ∀ i, i < k → (siteAt x) i = true⟩ (fun k => x.servers.length - k) 0 hs rfl ?ok1 ?env1 ?round1
  case ok1 => exact ⟨Nat.zero_le _, fun i hi => by omega⟩
  case env1 => exact (Env.le_consE rfl (by rfl) Env.le_nil)
  case round1 =>
   rintro k I a w hok hs
   obtain ⟨hk_k, hall⟩ := hok
   refine wp_seq <| wp_seq <| St.region <| hs.m fun hs => hs.o (ok_fieldP fd35_1 rfl .tt) fun hs => hs.o (ok_load1 ty30 .tt) fun hs => ?_
   refine hs.o ((by first | exact ok_lenM un30 .tt | exact ok_len un30 .tt | exact ok_lenV un30 .tt)) fun hs => ?_
   refine hs.o (ok_lss .tt .tt) fun hs => wpList_nil <| then_n ?_
   refine hs.cond .tt (fun hb2 => ?_) (fun hb2 => ?_)
   ·try simp only [B] at hb2
    refine wp_skip <| then_n <| wp_seq <| wp_block <| wp_seq <| St.region <| hs.o (ok_fieldP fd35_1 rfl .tt) fun hs => hs.o (ok_load1 ty30 .tt) fun hs => hs.m fun hs => ?_
    refine hs.o ((by first | exact ok_idxN un30 ty89 .tt .tt (fun _ => by exact hb2) | exact ok_idxM un30 ty89 .tt .tt (fun _ => by exact hb2) | exact ok_idx un30 ty89 .tt .tt (fun _ => by exact hb2))) fun hs => ?_
    refine hs.o ((by first | exact ok_loadA ty89 .tt rfl | exact ok_loadS ty89 .tt rfl)) fun hs => ?_
    refine hs.o (ok_call (c_spec_ServerOk ..) (args_cons .tt args_nil)) fun hs => hs.o (ok_not .tt) fun hs => hs.m fun hs => hs.q .F (ok_fieldP fd35_1 rfl .tt) fun hs => hs.q .F (ok_load1 ty30 .ag) fun hs => ?_
    refine hs.q .F (ok_move .tt) fun hs => ?_
    refine hs.q .F ((by first | exact ok_idxN un30 ty89 .ag .ag (fun hg => by exact hb2) | exact ok_idxM un30 ty89 .ag .ag (fun hg => by exact hb2) | exact ok_idx un30 ty89 .ag .ag (fun hg => by exact hb2))) fun hs => ?_
    refine hs.q .F (ok_fieldP fd89_0 rfl .ag) fun hs => ?_
    refine hs.q .F (ok_load1 ty3 .ag) fun hs => ?_
    refine hs.q .F (ok_move .tt) fun hs => hs.q .F (ok_nei .ag .ag) fun hs => ?_
    refine hs.o (ok_or .tt .c .pc) fun hs => wpList_nil <| then_n ?_
    refine hs.cond .tt (fun hb3 => ?_) (fun hb3 => ?_)
    ·rw [site_test2] at hb3; replace hb3 := nt hb3
     refine wp_seq <| St.region <| hs.sc fun hs => wpList_nil <| then_n <| wp_ret <| block_r <| then_r <| then_r <| block_r <| then_r <| hs.ret rfl (.cons (.t rfl) ResL.nil) ?_
     exact ret_bool (by unfold neckOk; rw [seen_allN, radio_allN]; rw [allN_false (f := siteAt x) hb2 hb3]; simp)
    ·rw [site_test2] at hb3; replace hb3 := nf hb3
     refine wp_skip <| block_n <| then_n <| St.region <| hs.m fun hs => ?_
     refine hs.o (ok_add .tt .c (fun _ => by omega)) fun hs => ?_
     refine hs.s fun hs => wpList_nil <| then_n ?_
     refine hs.again (k + 1) ?mu1 ?ok1001 (by rfl) ?env1001 (by repeat (first | exact Env.le_rfl | refine Env.le_push rfl ?_))
     case mu1 => omega
     case ok1001 => exact ⟨by omega, allN_next hall hb3⟩
     case env1001 => exact (Env.le_consE rfl (by first | rfl | (congr 1; done)) Env.le_nil)
   ·try simp only [B] at hb2
    refine wp_exit <| then_x <| then_x <| block_hit <| then_n <| wp_seq <| wp_seq <| St.region <| hs.sc fun hs => wpList_nil <| then_n <| wp_block ?_
    refine St.loopS (σ := Nat) (2 :: 4 :: 60 :: 61 :: 62 :: 63 :: 64 :: 65 :: 66 :: 67 :: 68 :: 69 :: 70 :: 71 :: 72 :: 73 :: []) ⟨fun k2 => [(4, AV.int k2)], fun k2 => [], fun k2 => k2 ≤ x.radio.length ∧ ∀ i, i < k2 → (fun i => wordOk (elt x.radio i)) i = true⟩ (fun k2 => x.radio.length - k2) 0 hs rfl ?ok2 ?env2 ?round2
    case ok2 => exact ⟨Nat.zero_le _, fun i hi => by omega⟩
    case env2 => exact (Env.le_consE rfl (by rfl) Env.le_nil)
    case round2 =>
     rintro k2 I a w hok hs
     obtain ⟨hk_k2, hall2⟩ := hok
     refine wp_seq <| wp_seq <| St.region <| hs.m fun hs => hs.o (ok_fieldP fd35_2 rfl .tt) fun hs => hs.o (ok_load1 ty31 .tt) fun hs => ?_
     refine hs.o ((by first | exact ok_lenM un31 .tt | exact ok_len un31 .tt | exact ok_lenV un31 .tt)) fun hs => ?_
     refine hs.o (ok_lss .tt .tt) fun hs => wpList_nil <| then_n ?_
     refine hs.cond .tt (fun hb4 => ?_) (fun hb4 => ?_)
     ·try simp only [B] at hb4
      refine wp_skip <| then_n <| wp_seq <| wp_block <| wp_seq <| St.region <| hs.o (ok_fieldP fd35_2 rfl .tt) fun hs => hs.o (ok_load1 ty31 .tt) fun hs => hs.m fun hs => ?_
      refine hs.o ((by first | exact ok_idxN un31 ty137 .tt .tt (fun _ => by exact hb4) | exact ok_idxM un31 ty137 .tt .tt (fun _ => by exact hb4) | exact ok_idx un31 ty137 .tt .tt (fun _ => by exact hb4))) fun hs => ?_
      refine hs.o ((by first | exact ok_loadA ty137 .tt rfl | exact ok_loadS ty137 .tt rfl)) fun hs => ?_
      refine hs.o (ok_call (c_spec_WordOk ..) (args_cons .tt args_nil)) fun hs => hs.o (ok_not .tt) fun hs => wpList_nil <| then_n ?_
      refine hs.cond .tt (fun hb5 => ?_) (fun hb5 => ?_)
      ·replace hb5 := nt hb5
       refine wp_seq <| St.region <| hs.sc fun hs => wpList_nil <| then_n <| wp_ret <| block_r <| then_r <| then_r <| block_r <| then_r <| hs.ret rfl (.cons (.t rfl) ResL.nil) ?_
       exact ret_bool (by unfold neckOk; rw [seen_allN, radio_allN]; rw [allN_false (f := fun i => wordOk (elt x.radio i)) hb4 hb5]; simp)
      ·replace hb5 := nf hb5
       refine wp_skip <| block_n <| then_n <| St.region <| hs.m fun hs => ?_
       refine hs.o (ok_add .tt .c (fun _ => by omega)) fun hs => ?_
       refine hs.s fun hs => wpList_nil <| then_n ?_
       refine hs.again (k2 + 1) ?mu2 ?ok1002 (by rfl) ?env1002 (by repeat (first | exact Env.le_rfl | refine Env.le_push rfl ?_))
       case mu2 => omega
       case ok1002 => exact ⟨by omega, allN_next hall2 hb5⟩
       case env1002 => exact (Env.le_consE rfl (by first | rfl | (congr 1; done)) Env.le_nil)
     ·try simp only [B] at hb4
      refine wp_exit <| then_x <| then_x <| block_hit <| then_n <| wp_seq <| wp_seq <| St.region <| hs.sc fun hs => wpList_nil <| then_n <| wp_block ?_
      refine St.loopS (σ := Nat) (2 :: 5 :: 74 :: 75 :: 76 :: 77 :: 78 :: 79 :: 80 :: 81 :: 82 :: 83 :: 84 :: 85 :: 86 :: 87 :: []) ⟨fun k3 => [(5, AV.int k3)], fun k3 => [], fun k3 => k3 ≤ x.seen.length ∧ ∀ i, i < k3 → (fun i => depsOk (elt x.seen i)) i = true⟩ (fun k3 => x.seen.length - k3) 0 hs rfl ?ok3 ?env3 ?round3
      case ok3 => exact ⟨Nat.zero_le _, fun i hi => by omega⟩
      case env3 => exact (Env.le_consE rfl (by rfl) Env.le_nil)
      case round3 =>
       rintro k3 I a w hok hs
       obtain ⟨hk_k3, hall3⟩ := hok
       refine wp_seq <| wp_seq <| St.region <| hs.m fun hs => hs.o (ok_fieldP fd35_4 rfl .tt) fun hs => hs.o (ok_load1 ty33 .tt) fun hs => ?_
       refine hs.o ((by first | exact ok_lenM un33 .tt | exact ok_len un33 .tt | exact ok_lenV un33 .tt)) fun hs => ?_
       refine hs.o (ok_lss .tt .tt) fun hs => wpList_nil <| then_n ?_
       refine hs.cond .tt (fun hb6 => ?_) (fun hb6 => ?_)
       ·try simp only [B] at hb6
        refine wp_skip <| then_n <| wp_seq <| wp_block <| wp_seq <| St.region <| hs.o (ok_fieldP fd35_4 rfl .tt) fun hs => hs.o (ok_load1 ty33 .tt) fun hs => hs.m fun hs => ?_
        refine hs.o ((by first | exact ok_idxN un33 ty65 .tt .tt (fun _ => by exact hb6) | exact ok_idxM un33 ty65 .tt .tt (fun _ => by exact hb6) | exact ok_idx un33 ty65 .tt .tt (fun _ => by exact hb6))) fun hs => ?_
        refine hs.o (ok_load1 ty65 .tt) fun hs => ?_
        refine hs.o (ok_call (c_spec_DepsOk ..) (args_cons .r args_nil)) fun hs => ?_
        refine hs.o (ok_not .tt) fun hs => wpList_nil <| then_n ?_
        refine hs.cond .tt (fun hb7 => ?_) (fun hb7 => ?_)
        ·replace hb7 := nt hb7
         refine wp_seq <| St.region <| hs.sc fun hs => wpList_nil <| then_n <| wp_ret <| block_r <| then_r <| then_r <| block_r <| then_r <| hs.ret rfl (.cons (.t rfl) ResL.nil) ?_
         exact ret_bool (by unfold neckOk; rw [seen_allN, radio_allN]; rw [allN_false (f := fun i => depsOk (elt x.seen i)) hb6 hb7]; simp)
        ·replace hb7 := nf hb7
         refine wp_skip <| block_n <| then_n <| St.region <| hs.m fun hs => ?_
         refine hs.o (ok_add .tt .c (fun _ => by omega)) fun hs => ?_
         refine hs.s fun hs => wpList_nil <| then_n ?_
         refine hs.again (k3 + 1) ?mu3 ?ok1003 (by rfl) ?env1003 (by repeat (first | exact Env.le_rfl | refine Env.le_push rfl ?_))
         case mu3 => omega
         case ok1003 => exact ⟨by omega, allN_next hall3 hb7⟩
         case env1003 => exact (Env.le_consE rfl (by first | rfl | (congr 1; done)) Env.le_nil)
       ·try simp only [B] at hb6
        refine wp_exit <| then_x <| then_x <| block_hit <| then_n <| wp_seq <| St.region <| hs.sc fun hs => wpList_nil <| then_n <| wp_ret <| hs.ret rfl (.cons (.t rfl) ResL.nil) ?_
        exact ret_bool (by unfold neckOk; rw [seen_allN, radio_allN]; rw [allN_true hall (by omega), allN_true hall2 (by omega), allN_true hall3 (by omega)]; rw [Bool.and_eq_true] at hb1; rw [hb1.1, hb1.2]; rfl)

end Go.Proofs.YtlppgilifnkapaaGreat
