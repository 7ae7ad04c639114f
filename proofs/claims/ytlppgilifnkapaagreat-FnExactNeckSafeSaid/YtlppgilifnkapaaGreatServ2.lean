/- Walks: servers. -/
import Derived.Test.YtlppgilifnkapaaGreatServ
set_option linter.unusedVariables false
set_option linter.unusedSimpArgs false
set_option maxRecDepth 100000
namespace Go.Proofs.YtlppgilifnkapaaGreat
open Go Go.RowKit


def standOf (s : Server) (key : Int) : Int := (elt s.slots (verSlot key).toNat).stand
def slotGood (x : Slot) : Bool := inB x.epoch 0 9999 && inB x.stand 0 2 && !((x.stand != 0) && (x.epoch == 0))
def serverHead (s : Server) : Bool := siteB s.site && decide (s.slots.length = 3) && chainOk s.vers && chainOk s.waits && debtsOk s.owes && debtsOk s.knows && !(!s.up && decide (0 < s.knows.length))
def slotAt (s : Server) (i : Nat) : Bool := slotGood (elt s.slots i)
def verAt (s : Server) (i : Nat) : Bool := standOf s (elt s.vers i).key != 0
def waitGood (s : Server) (v : Ver) : Bool := (standOf s v.key != 0) && (siteSide v.stamp.site != siteSide s.site) && decide (placeOf s.vers v.dep < 0)
def waitAt (s : Server) (i : Nat) : Bool := waitGood s (elt s.waits i)
def serverOk (s : Server) : Bool := serverHead s && allN s.slots.length (slotAt s) && allN s.vers.length (verAt s) && allN s.waits.length (waitAt s) && hasAll s.vers s.owes
theorem srv_test (s : Server) : (!siteB s.site || ((s.slots.length : Int) != 3) || !chainOk s.vers || !chainOk s.waits || !debtsOk s.owes || !debtsOk s.knows || (!s.up && decide (0 < (s.knows.length : Int)))) = !serverHead s := by
  have e : ((s.slots.length : Int) != 3) = !decide (s.slots.length = 3) := by rw [Bool.eq_iff_iff]; simp; omega
  have e2 : decide (0 < (s.knows.length : Int)) = decide (0 < s.knows.length) := by rw [Bool.eq_iff_iff]; simp
  rw [e, e2]; simp [serverHead]
theorem slot_test (x : Slot) : (!inB x.epoch 0 9999 || !inB x.stand 0 2 || ((x.stand != 0) && (x.epoch == 0))) = !slotGood x := by simp [slotGood]
theorem ver_test (s : Server) (i : Nat) : (standOf s (elt s.vers i).key == 0) = !verAt s i := by simp [verAt, bne]
theorem wait_test (s : Server) (v : Ver) : ((standOf s v.key == 0) || !(siteSide v.stamp.site != siteSide s.site) || decide (0 ≤ placeOf s.vers v.dep)) = !waitGood s v := by
  have e : decide (0 ≤ placeOf s.vers v.dep) = !decide (placeOf s.vers v.dep < 0) := by rw [Bool.eq_iff_iff]; simp
  rw [e]; simp [waitGood, bne]
theorem chain_at {l : List Ver} (h : chainOk l = true) {k : Nat} (hk : k < l.length) : verOk (elt l k) = true := by
  unfold chainOk at h
  rw [Bool.and_eq_true, allN_iff] at h
  have := h.2 k hk
  unfold linkB at this
  rw [Bool.and_eq_true] at this
  exact this.1
theorem verOk_key {v : Ver} (h : verOk v = true) : keyB v.key = true := by
  simp only [verOk, Bool.and_eq_true] at h; exact h.1.1.1.1.1.1
theorem head_parts {s : Server} (h : serverHead s = true) : s.slots.length = 3 ∧ chainOk s.vers = true ∧ chainOk s.waits = true ∧ debtsOk s.owes = true ∧ debtsOk s.knows = true ∧ siteB s.site = true := by
  simp only [serverHead, Bool.and_eq_true, decide_eq_true_eq] at h
  exact ⟨h.1.1.1.1.1.2, h.1.1.1.1.2, h.1.1.1.2, h.1.1.2, h.1.2, h.1.1.1.1.1.1⟩
theorem verSlot_range {n : Int} (h : keyB n = true) : 0 ≤ verSlot n ∧ verSlot n < 3 := by
  unfold verSlot; simp only [h, if_true]; simp [keyB, inB] at h; omega

theorem c_impl_Server_stand (s : Server) (key : Int) (hk : keyB key = true) (hl : s.slots.length = 3) :
    Fn Tryz.prog 188 [s.av, AV.int key] (AV.int (standOf s key)) := by
 refine Fn.intro 12 Tryz.func188 rfl Tryz.ntmps188 rfl (by kernel_rfl) (fun W I a hs => ?_)
 have hr := verSlot_range hk
 refine wp_seq <| St.region <| hs.o (ok_boxP .tt) fun hs => hs.sc fun hs => wpList_nil <| then_n <| wp_seq <| hs.dk <| .o (ok_fieldP fd89_2 rfl .tt) <| .o (ok_load1 ty87 .tt) <| .o (ok_move .tt) <| .o (ok_call (c_impl_VerSlot ..) (args_cons .tt args_nil)) ?_
 refine .o ((by first | exact ok_idxN un87 ty91 .tt .tt (fun _ => by omega) | exact ok_idxM un87 ty91 .tt .tt (fun _ => by omega) | exact ok_idx un87 ty91 .tt .tt (fun _ => by omega))) ?_
 refine .o (ok_fieldP fd91_1 rfl .tt) <| .o (ok_load1 ty3 .tt) <| .o (ok_assign .tt) <| RunK.nil ?_
 intro I a w hs
 refine then_n <| wp_ret <| hs.ret rfl (.cons (.t rfl) ResL.nil) ?_
 rfl

theorem c_spec_l21Here (s : Server) (key : Int) (hk : keyB key = true) (hl : s.slots.length = 3) :
    Fn Tryz.prog 239 [s.av, AV.int key] (AV.bool (standOf s key != 0)) := by
 refine Fn.intro 13 Tryz.func239 rfl Tryz.ntmps239 rfl (by kernel_rfl) (fun W I a hs => ?_)
 have hr := verSlot_range hk
 refine wp_seq <| St.region <| hs.o (ok_boxP .tt) fun hs => hs.sc fun hs => wpList_nil <| then_n <| wp_seq <| hs.dk <| .o (ok_fieldP fd89_2 rfl .tt) <| .o (ok_load1 ty87 .tt) <| .o (ok_move .tt) <| .o (ok_call (c_spec_VerSlot ..) (args_cons .tt args_nil)) ?_
 refine .o ((by first | exact ok_idxN un87 ty91 .tt .tt (fun _ => by omega) | exact ok_idxM un87 ty91 .tt .tt (fun _ => by omega) | exact ok_idx un87 ty91 .tt .tt (fun _ => by omega))) ?_
 refine .o (ok_fieldP fd91_1 rfl .tt) <| .o (ok_load1 ty3 .tt) <| .o (ok_nei .tt .c) <| .o (ok_assign .tt) <| RunK.nil ?_
 intro I a w hs
 refine then_n <| wp_ret <| hs.ret rfl (.cons (.t rfl) ResL.nil) ?_
 rfl

theorem c_impl_Server_stranger (s : Server) (v : Ver) :
    Fn Tryz.prog 189 [s.av, v.av] (AV.bool (siteSide v.stamp.site != siteSide s.site)) := by
 refine Fn.intro 13 Tryz.func189 rfl Tryz.ntmps189 rfl (by kernel_rfl) (fun W I a hs => ?_)
 refine wp_seq <| St.region <| hs.o (ok_boxP .tt) fun hs => hs.o (ok_boxP .tt) fun hs => hs.sc fun hs => wpList_nil <| then_n <| wp_seq <| hs.dk <| .o (ok_fieldP fd94_1 rfl .tt) <| .o (ok_fieldP fd67_1 rfl .tt) <| .o (ok_load1 ty3 .tt) <| .o (ok_call (c_impl_SiteSide ..) (args_cons .tt args_nil)) <| .o (ok_fieldP fd89_0 rfl .tt) <| .o (ok_load1 ty3 .tt) <| .o (ok_call (c_impl_SiteSide ..) (args_cons .tt args_nil)) <| .o (ok_nei .tt .tt) <| .o (ok_assign .tt) <| RunK.nil ?_
 intro I a w hs
 refine then_n <| wp_ret <| hs.ret rfl (.cons (.t rfl) ResL.nil) ?_
 rfl

set_option maxHeartbeats 4000000 in
theorem c_impl_ServerOk (s : Server) :
    Fn Tryz.prog 109 [s.av] (AV.bool (serverOk s)) := by
 refine Fn.intro 127 Tryz.func109 rfl Tryz.ntmps109 rfl (by kernel_rfl) (fun W I a hs => ?_)
 have lens : s.slots.length ≤ 9223372036854775807 ∧ s.vers.length ≤ 9223372036854775807 ∧ s.waits.length ≤ 9223372036854775807 ∧ s.owes.length ≤ 9223372036854775807 := by
    obtain ⟨cs, _, hc⟩ := hs.env 0 _ rfl
    obtain ⟨u1, _, h1, _⟩ := hc.get (i := 2) rfl
    obtain ⟨u2, _, h2, _⟩ := hc.get (i := 3) rfl
    obtain ⟨u3, _, h3, _⟩ := hc.get (i := 4) rfl
    obtain ⟨u4, _, h4, _⟩ := hc.get (i := 5) rfl
    exact ⟨rows_le h1, rows_le h2, rows_le h3, rows_le h4⟩
 refine wp_seq <| St.region <| hs.o (ok_boxP .tt) fun hs => hs.sc fun hs => wpList_nil <| then_n <| wp_seq <| wp_seq <| St.region <| hs.o (ok_fieldP fd89_0 rfl .tt) fun hs => hs.o (ok_load1 ty3 .tt) fun hs => hs.o (ok_call (c_impl_isSite ..) (args_cons .tt args_nil)) fun hs => hs.o (ok_not .tt) fun hs => hs.m fun hs => hs.q .F (ok_fieldP fd89_2 rfl .tt) fun hs => hs.q .F (ok_load1 ty87 .ag) fun hs => ?_
 refine hs.q .F ((by first | exact ok_lenM un87 .ag | exact ok_len un87 .ag | exact ok_lenV un87 .ag)) fun hs => ?_
 refine hs.q .F (ok_nei .ag .c) fun hs => ?_
 refine hs.o (ok_or .tt .c .pc) fun hs => hs.m fun hs => hs.q .F (ok_fieldP fd89_3 rfl .tt) fun hs => hs.q .F (ok_load1 ty48 .ag) fun hs => ?_
 refine hs.q .F (ok_call (c_impl_ChainOk ..) (args_cons .ag args_nil)) fun hs => ?_
 refine hs.q .F (ok_not .ag) fun hs => ?_
 refine hs.o (ok_or .tt .c .pc) fun hs => hs.m fun hs => hs.q .F (ok_fieldP fd89_4 rfl .tt) fun hs => hs.q .F (ok_load1 ty48 .ag) fun hs => ?_
 refine hs.q .F (ok_call (c_impl_ChainOk ..) (args_cons .ag args_nil)) fun hs => ?_
 refine hs.q .F (ok_not .ag) fun hs => ?_
 refine hs.o (ok_or .tt .c .pc) fun hs => hs.m fun hs => hs.q .F (ok_fieldP fd89_5 rfl .tt) fun hs => hs.q .F (ok_load1 ty65 .ag) fun hs => ?_
 refine hs.q .F (ok_call (c_impl_debtsOk ..) (args_cons .ag args_nil)) fun hs => ?_
 refine hs.q .F (ok_not .ag) fun hs => ?_
 refine hs.o (ok_or .tt .c .pc) fun hs => hs.m fun hs => hs.q .F (ok_fieldP fd89_6 rfl .tt) fun hs => hs.q .F (ok_load1 ty65 .ag) fun hs => ?_
 refine hs.q .F (ok_call (c_impl_debtsOk ..) (args_cons .ag args_nil)) fun hs => ?_
 refine hs.q .F (ok_not .ag) fun hs => ?_
 refine hs.o (ok_or .tt .c .pc) fun hs => hs.m fun hs => hs.q .F (ok_fieldP fd89_1 rfl .tt) fun hs => hs.q .F (ok_load1 ty4 .ag) fun hs => ?_
 refine hs.q .F (ok_not .ag) fun hs => ?_
 refine hs.q .F (ok_move .ag) fun hs => ?_
 refine hs.q .T2 (ok_fieldP fd89_6 rfl .tt) fun hs => hs.q .T2 (ok_load1 ty65 .ag) fun hs => ?_
 refine hs.q .T2 ((by first | exact ok_lenM un65 .ag | exact ok_len un65 .ag | exact ok_lenV un65 .ag)) fun hs => ?_
 refine hs.q .T2 (ok_gtr .ag .c) fun hs => ?_
 refine hs.q .F (ok_and .ag .pc .c) fun hs => ?_
 refine hs.o (ok_or .tt .c .pc) fun hs => wpList_nil <| then_n ?_
 refine hs.cond .tt (fun hb1 => ?_) (fun hb1 => ?_)
 ·rw [srv_test] at hb1; replace hb1 := nt hb1
  refine wp_seq <| St.region <| hs.sc fun hs => wpList_nil <| then_n <| wp_ret <| then_r <| hs.ret rfl (.cons (.t rfl) ResL.nil) ?_
  exact ret_bool (by unfold serverOk; rw [hb1]; rfl)
 ·rw [srv_test] at hb1; replace hb1 := nf hb1; obtain ⟨hl3, hcv, hcw, hco, hck, hsi⟩ := head_parts hb1
  refine wp_skip <| then_n <| wp_seq <| wp_seq <| St.region <| hs.o (ok_fieldP fd89_2 rfl .tt) fun hs => hs.o (ok_load1 ty87 .tt) fun hs => ?_
  refine hs.o ((by first | exact ok_lenM un87 .tt | exact ok_len un87 .tt | exact ok_lenV un87 .tt)) fun hs => ?_
  refine hs.mc fun hs => wpList_nil <| then_n <| wp_block ?_
  refine St.loopS (σ := Nat) (2 :: 4 :: 57 :: 58 :: 59 :: 60 :: 61 :: 62 :: 63 :: 64 :: 65 :: 66 :: 67 :: 68 :: 69 :: 70 :: 71 :: 72 :: 73 :: 74 :: 75 :: 76 :: 77 :: 78 :: 79 :: 80 :: 81 :: []) ⟨fun k1 => [(57, AV.int k1)], fun k1 => [], fun k1 => k1 ≤ s.slots.length ∧ ∀ i, i < k1 → (slotAt s) i = true⟩ (fun k1 => s.slots.length - k1) 0 hs rfl ?ok1 ?env1 ?round1
  case ok1 => exact ⟨Nat.zero_le _, fun i hi => by omega⟩
  case env1 => exact (Env.le_consE rfl (by rfl) Env.le_nil)
  case round1 =>
   rintro k1 I a w hok hs
   obtain ⟨hk_k1, hall1⟩ := hok
   refine wp_seq <| St.region <| hs.o (ok_lss .tt .tt) fun hs => wpList_nil <| then_n <| wp_seq ?_
   refine hs.cond .tt (fun hb2 => ?_) (fun hb2 => ?_)
   ·try simp only [B] at hb2
    refine wp_skip <| then_n <| wp_seq <| wp_block <| wp_seq <| St.region ?_
    refine hs.o ((by first | exact ok_idxN un87 ty91 .tt .tt (fun _ => by exact hb2) | exact ok_idxM un87 ty91 .tt .tt (fun _ => by exact hb2) | exact ok_idx un87 ty91 .tt .tt (fun _ => by exact hb2))) fun hs => ?_
    refine hs.o ((by first | exact ok_loadA ty91 .tt rfl | exact ok_loadS ty91 .tt rfl)) fun hs => ?_
    refine hs.alloc rfl ty91 zc91 fun b4 I a w hs => ?_
    refine hs.storeB 0 ty91 .tt .tt rfl (by first | rfl | assumption) rfl fun a w hs => ?_
    obtain ⟨I, hs, hf⟩ := hs.freezeBox 0 rfl
    have hs := hs.upd (t := 4) rfl hf; clear hf
    refine wpList_nil <| then_n <| wp_seq <| St.region <| hs.o (ok_fieldP fd91_0 rfl .tt) fun hs => hs.o (ok_load1 ty3 .tt) fun hs => hs.o (ok_call (c_impl_in ..) (args_cons .tt (args_cons .c (args_cons .c args_nil)))) fun hs => hs.o (ok_not .tt) fun hs => hs.m fun hs => hs.q .F (ok_fieldP fd91_1 rfl .tt) fun hs => hs.q .F (ok_load1 ty3 .ag) fun hs => ?_
    refine hs.q .F (ok_call (c_impl_in ..) (args_cons .ag (args_cons .c (args_cons .c args_nil)))) fun hs => ?_
    refine hs.q .F (ok_not .ag) fun hs => ?_
    refine hs.o (ok_or .tt .c .pc) fun hs => hs.m fun hs => hs.q .F (ok_fieldP fd91_1 rfl .tt) fun hs => hs.q .F (ok_load1 ty3 .ag) fun hs => ?_
    refine hs.q .F (ok_nei .ag .c) fun hs => ?_
    refine hs.q .F (ok_move .ag) fun hs => ?_
    refine hs.q .T2 (ok_fieldP fd91_0 rfl .tt) fun hs => hs.q .T2 (ok_load1 ty3 .ag) fun hs => ?_
    refine hs.q .T2 (ok_eqi .ag .c) fun hs => ?_
    refine hs.q .F (ok_and .ag .pc .c) fun hs => ?_
    refine hs.o (ok_or .tt .c .pc) fun hs => wpList_nil <| then_n ?_
    refine hs.cond .tt (fun hb3 => ?_) (fun hb3 => ?_)
    ·rw [slot_test] at hb3; replace hb3 := nt hb3
     refine wp_seq <| St.region <| hs.sc fun hs => wpList_nil <| then_n <| wp_ret <| block_r <| then_r <| then_r <| block_r <| then_r <| hs.ret rfl (.cons (.t rfl) ResL.nil) ?_
     exact ret_bool (by unfold serverOk; rw [hb1, allN_false (f := slotAt s) hb2 hb3]; simp)
    ·rw [slot_test] at hb3; replace hb3 := nf hb3
     refine wp_skip <| block_n <| then_n <| St.region ?_
     refine hs.o (ok_add .tt .c (fun _ => by omega)) fun hs => ?_
     refine hs.m fun hs => wpList_nil <| then_n ?_
     have hs := hs.drop 0
     refine hs.again (k1 + 1) ?mu1 ?ok1001 (by rfl) ?env1001 (by repeat (first | exact Env.le_rfl | refine Env.le_push rfl ?_))
     case mu1 => omega
     case ok1001 => exact ⟨by omega, allN_next hall1 hb3⟩
     case env1001 => exact (Env.le_consE rfl (by first | rfl | (congr 1; done)) Env.le_nil)
   ·try simp only [B] at hb2
    refine wp_exit <| then_x <| then_x <| block_hit <| then_n <| wp_seq <| wp_seq <| St.region <| hs.o (ok_fieldP fd89_3 rfl .tt) fun hs => hs.o (ok_load1 ty48 .tt) fun hs => ?_
    refine hs.o ((by first | exact ok_lenM un48 .tt | exact ok_len un48 .tt | exact ok_lenV un48 .tt)) fun hs => ?_
    refine hs.mc fun hs => wpList_nil <| then_n <| wp_block ?_
    refine St.loopS (σ := Nat) (2 :: 6 :: 85 :: 86 :: 87 :: 88 :: 89 :: 90 :: 91 :: 92 :: 93 :: 94 :: []) ⟨fun k2 => [(85, AV.int k2)], fun k2 => [], fun k2 => k2 ≤ s.vers.length ∧ ∀ i, i < k2 → (verAt s) i = true⟩ (fun k2 => s.vers.length - k2) 0 hs rfl ?ok2 ?env2 ?round2
    case ok2 => exact ⟨Nat.zero_le _, fun i hi => by omega⟩
    case env2 => exact (Env.le_consE rfl (by rfl) Env.le_nil)
    case round2 =>
     rintro k2 I a w hok hs
     obtain ⟨hk_k2, hall2⟩ := hok
     refine wp_seq <| St.region <| hs.o (ok_lss .tt .tt) fun hs => wpList_nil <| then_n <| wp_seq ?_
     refine hs.cond .tt (fun hb4 => ?_) (fun hb4 => ?_)
     ·try simp only [B] at hb4
      refine wp_skip <| then_n <| wp_seq <| wp_block <| wp_seq <| St.region ?_
      refine hs.o ((by first | exact ok_idxN un48 ty94 .tt .tt (fun _ => by exact hb4) | exact ok_idxM un48 ty94 .tt .tt (fun _ => by exact hb4) | exact ok_idx un48 ty94 .tt .tt (fun _ => by exact hb4))) fun hs => ?_
      refine hs.o ((by first | exact ok_loadA ty94 .tt rfl | exact ok_loadS ty94 .tt rfl)) fun hs => ?_
      refine hs.alloc rfl ty94 zc94 fun b6 I a w hs => ?_
      refine hs.storeB 0 ty94 .tt .tt rfl (by first | rfl | assumption) rfl fun a w hs => ?_
      obtain ⟨I, hs, hf⟩ := hs.freezeBox 0 rfl
      have hs := hs.upd (t := 6) rfl hf; clear hf
      refine wpList_nil <| then_n <| wp_seq <| St.region ?_
      refine hs.o ((by first | exact ok_loadA ty89 .tt rfl | exact ok_loadS ty89 .tt rfl)) fun hs => ?_
      refine hs.o (ok_fieldP fd94_0 rfl .tt) fun hs => hs.o (ok_load1 ty3 .tt) fun hs => hs.o (ok_call (c_impl_Server_stand _ _ (verOk_key (chain_at hcv hb4)) hl3) (args_cons .tt (args_cons .tt args_nil))) fun hs => hs.o (ok_eqi .tt .c) fun hs => wpList_nil <| then_n ?_
      refine hs.cond .tt (fun hb5 => ?_) (fun hb5 => ?_)
      ·rw [ver_test] at hb5; replace hb5 := nt hb5
       refine wp_seq <| St.region <| hs.sc fun hs => wpList_nil <| then_n <| wp_ret <| block_r <| then_r <| then_r <| block_r <| then_r <| hs.ret rfl (.cons (.t rfl) ResL.nil) ?_
       exact ret_bool (by unfold serverOk; rw [hb1, allN_true hall1 (by omega), allN_false (f := verAt s) hb4 hb5]; simp)
      ·rw [ver_test] at hb5; replace hb5 := nf hb5
       refine wp_skip <| block_n <| then_n <| St.region ?_
       refine hs.o (ok_add .tt .c (fun _ => by omega)) fun hs => ?_
       refine hs.m fun hs => wpList_nil <| then_n ?_
       have hs := hs.drop 0
       refine hs.again (k2 + 1) ?mu2 ?ok1002 (by rfl) ?env1002 (by repeat (first | exact Env.le_rfl | refine Env.le_push rfl ?_))
       case mu2 => omega
       case ok1002 => exact ⟨by omega, allN_next hall2 hb5⟩
       case env1002 => exact (Env.le_consE rfl (by first | rfl | (congr 1; done)) Env.le_nil)
     ·try simp only [B] at hb4
      refine wp_exit <| then_x <| then_x <| block_hit <| then_n <| wp_seq <| wp_seq <| St.region <| hs.o (ok_fieldP fd89_4 rfl .tt) fun hs => hs.o (ok_load1 ty48 .tt) fun hs => ?_
      refine hs.o ((by first | exact ok_lenM un48 .tt | exact ok_len un48 .tt | exact ok_lenV un48 .tt)) fun hs => ?_
      refine hs.mc fun hs => wpList_nil <| then_n <| wp_block ?_
      refine St.loopS (σ := Nat) (2 :: 8 :: 98 :: 99 :: 100 :: 101 :: 102 :: 103 :: 104 :: 105 :: 106 :: 107 :: 108 :: 109 :: 110 :: 111 :: 112 :: 113 :: 114 :: 115 :: 116 :: 117 :: 118 :: 119 :: 120 :: 121 :: []) ⟨fun k3 => [(98, AV.int k3)], fun k3 => [], fun k3 => k3 ≤ s.waits.length ∧ ∀ i, i < k3 → (waitAt s) i = true⟩ (fun k3 => s.waits.length - k3) 0 hs rfl ?ok3 ?env3 ?round3
      case ok3 => exact ⟨Nat.zero_le _, fun i hi => by omega⟩
      case env3 => exact (Env.le_consE rfl (by rfl) Env.le_nil)
      case round3 =>
       rintro k3 I a w hok hs
       obtain ⟨hk_k3, hall3⟩ := hok
       refine wp_seq <| St.region <| hs.o (ok_lss .tt .tt) fun hs => wpList_nil <| then_n <| wp_seq ?_
       refine hs.cond .tt (fun hb6 => ?_) (fun hb6 => ?_)
       ·try simp only [B] at hb6
        refine wp_skip <| then_n <| wp_seq <| wp_block <| wp_seq <| St.region ?_
        refine hs.o ((by first | exact ok_idxN un48 ty94 .tt .tt (fun _ => by exact hb6) | exact ok_idxM un48 ty94 .tt .tt (fun _ => by exact hb6) | exact ok_idx un48 ty94 .tt .tt (fun _ => by exact hb6))) fun hs => ?_
        refine hs.o ((by first | exact ok_loadA ty94 .tt rfl | exact ok_loadS ty94 .tt rfl)) fun hs => ?_
        refine hs.alloc rfl ty94 zc94 fun b8 I a w hs => ?_
        refine hs.storeB 0 ty94 .tt .tt rfl (by first | rfl | assumption) rfl fun a w hs => ?_
        obtain ⟨I, hs, hf⟩ := hs.freezeBox 0 rfl
        have hs := hs.upd (t := 8) rfl hf; clear hf
        refine wpList_nil <| then_n <| wp_seq <| hs.dk ?_
        refine .o ((by first | exact ok_loadA ty89 .tt rfl | exact ok_loadS ty89 .tt rfl)) ?_
        refine .o (ok_fieldP fd94_0 rfl .tt) <| .o (ok_load1 ty3 .tt) <| .o (ok_call (c_impl_Server_stand _ _ (verOk_key (chain_at hcw hb6)) hl3) (args_cons .tt (args_cons .tt args_nil))) <| .o (ok_eqi .tt .c) <| .o (ok_move .tt) ?_
        refine .q .F ((by first | exact ok_loadA ty89 .tt rfl | exact ok_loadS ty89 .tt rfl)) ?_
        refine .q .F ((by first | exact ok_loadA ty94 .tt rfl | exact ok_loadS ty94 .tt rfl)) ?_
        refine .q .F (ok_call (c_impl_Server_stranger ..) (args_cons .ag (args_cons .ag args_nil))) ?_
        refine .q .F (ok_not .ag) ?_
        refine .o (ok_or .tt .c .pc) <| .o (ok_move .tt) <| .q .F (ok_fieldP fd89_3 rfl .tt) <| .q .F (ok_load1 ty48 .ag) ?_
        refine .q .F ((by first | exact ok_loadA ty94 .tt rfl | exact ok_loadS ty94 .tt rfl)) ?_
        refine .q .F (ok_call (c_impl_Ver_dep ..) (args_cons .ag args_nil)) ?_
        refine .q .F (ok_call (c_impl_place ..) (args_cons .ag (args_cons .ag args_nil))) ?_
        refine .q .F (ok_geq .ag .c) ?_
        refine .o (ok_or .tt .c .pc) <| RunK.nil ?_
        intro I a w hs
        refine then_n ?_
        refine hs.cond .tt (fun hb7 => ?_) (fun hb7 => ?_)
        ·rw [wait_test] at hb7; replace hb7 := nt hb7
         refine wp_seq <| St.region <| hs.sc fun hs => wpList_nil <| then_n <| wp_ret <| block_r <| then_r <| then_r <| block_r <| then_r <| hs.ret rfl (.cons (.t rfl) ResL.nil) ?_
         exact ret_bool (by unfold serverOk; rw [hb1, allN_true hall1 (by omega), allN_true hall2 (by omega), allN_false (f := waitAt s) hb6 hb7]; simp)
        ·rw [wait_test] at hb7; replace hb7 := nf hb7
         refine wp_skip <| block_n <| then_n <| St.region ?_
         refine hs.o (ok_add .tt .c (fun _ => by omega)) fun hs => ?_
         refine hs.m fun hs => wpList_nil <| then_n ?_
         have hs := hs.drop 0
         refine hs.again (k3 + 1) ?mu3 ?ok1003 (by rfl) ?env1003 (by repeat (first | exact Env.le_rfl | refine Env.le_push rfl ?_))
         case mu3 => omega
         case ok1003 => exact ⟨by omega, allN_next hall3 hb7⟩
         case env1003 => exact (Env.le_consE rfl (by first | rfl | (congr 1; done)) Env.le_nil)
       ·try simp only [B] at hb6
        refine wp_exit <| then_x <| then_x <| block_hit <| then_n <| wp_seq <| St.region <| hs.o (ok_fieldP fd89_3 rfl .tt) fun hs => hs.o (ok_load1 ty48 .tt) fun hs => hs.o (ok_fieldP fd89_5 rfl .tt) fun hs => hs.o (ok_load1 ty65 .tt) fun hs => ?_
        refine hs.o (ok_call (c_impl_hasAll ..) (args_cons .r (args_cons .r args_nil))) fun hs => ?_
        refine hs.s fun hs => wpList_nil <| then_n <| wp_ret <| hs.ret rfl (.cons (.t rfl) ResL.nil) ?_
        exact ret_bool (by unfold serverOk; rw [hb1, allN_true hall1 (by omega), allN_true hall2 (by omega), allN_true hall3 (by omega)]; simp)

end Go.Proofs.YtlppgilifnkapaaGreat
