/- Part 35: rules of the proofs, contracts of functions, plain facts. -/
import Derived.Test.YtkoebplikhlapaaGreatDoorP34
set_option linter.unusedVariables false
set_option linter.unusedSimpArgs false
set_option maxRecDepth 100000
namespace Go.Proofs.YtkoebplikhlapaaGreatDoor
open Go Go.RowKit
set_option maxHeartbeats 4000000 in
theorem c_spec_l71Sim_bring (bs br : Nat) (code : List UInt8) (hcl : code.length ≤ 1099511627776) (s : Sim) (p : Int) (n : Nat) (h : SimIn n s) (h0 : 0 ≤ p) (h1 : p ≤ n) (hn : n ≤ 890000) (most odd : Int) (hm : most ≤ 60) :
    FnE Tryz.prog 43 [AV.val (.pointer (some ⟨bs, 0, none⟩)), AV.int most, AV.int odd] [Own.box bs 43 [AV.val (.pointer (some ⟨br, 0, none⟩)), AV.int s.w.time, serversAV s.w.servers, wordsAV s.w.radio, callsAV s.w.calls, seenAV s.w.seen, AV.val s.lv], Own.row s.lv 50 11 (s.list.map Ev.cells), Own.box br 66 [bytesAV code, AV.int (p)]] (fun r : Sim × Int => SimIn (n + 240) r.1 ∧ 0 ≤ r.2 ∧ r.2 ≤ ((n + 240 : Nat) : Int)) (fun r => [Own.box bs 43 [AV.val (.pointer (some ⟨br, 0, none⟩)), AV.int r.1.w.time, serversAV r.1.w.servers, wordsAV r.1.w.radio, callsAV r.1.w.calls, seenAV r.1.w.seen, AV.val r.1.lv], Own.row r.1.lv 50 11 (r.1.list.map Ev.cells), Own.box br 66 [bytesAV code, AV.int (r.2)]]) (fun _ => AV.tup []) := by
 refine FnE.intro 60 Tryz.func43 rfl Tryz.ntmps43 rfl (by kernel_rfl) (fun W I a hs => ?_)
 refine sr <| hs.sc fun hs => nn <| wp_block ?_
 refine St.lo (σ := Nat × Sim × Int) (run 54 6 []) ⟨fun ⟨j, s1, p1⟩ => [(6, AV.int j)], fun ⟨j, s1, p1⟩ => [Own.box bs 43 [AV.val (.pointer (some ⟨br, 0, none⟩)), AV.int s1.w.time, serversAV s1.w.servers, wordsAV s1.w.radio, callsAV s1.w.calls, seenAV s1.w.seen, AV.val s1.lv], Own.row s1.lv 50 11 (s1.list.map Ev.cells), Own.box br 66 [bytesAV code, AV.int (p1)]], fun ⟨j, s1, p1⟩ => SimIn (n + 4 * j) s1 ∧ 0 ≤ p1 ∧ p1 ≤ ((n + 4 * j : Nat) : Int) ∧ j ≤ 60⟩ (fun ⟨j, s1, p1⟩ => 60 - j) (0, s, p) hs ?ok1 ?round1
 case ok1 => exact ⟨h, h0, h1, Nat.zero_le _⟩
 case round1 =>
  rintro ⟨j, s1, p1⟩ I a w hok hs
  obtain ⟨hs1, hp0, hp1, hj⟩ := hok
  change St _ _ [Own.box bs 43 [AV.val (.pointer (some ⟨br, 0, none⟩)), AV.int s1.w.time, serversAV s1.w.servers, wordsAV s1.w.radio, callsAV s1.w.calls, seenAV s1.w.seen, AV.val s1.lv], Own.row s1.lv 50 11 (s1.list.map Ev.cells), Own.box br 66 [bytesAV code, AV.int (p1)]] _ _ _ at hs
  have hrl := hs1.radio
  refine wp_seq <| sr <| hs.m fun hs => hs.m fun hs => hs.o .lss fun hs => hs.m fun hs => hs.q .T .mv fun hs => ?_
  refine hs.q .T .nl fun hs => ?_
  refine hs.q .T (.fvx .ag) fun hs => ?_
  refine hs.q .T (.fvx .ag) fun hs => ?_
  refine hs.q .T (.lbx 0 .ag) fun hs => ?_
  refine hs.q .T .ln fun hs => ?_
  refine hs.q .T (ok_gtr .ag .c) fun hs => ?_
  refine hs.o .an fun hs => nn ?_
  refine hs.cd (fun hb1 => ?_) fun hb1 => ?_
  ·simp only [B] at hb1
   refine wp_skip <| then_n <| wp_seq <| wp_block <| sr ?_
   refine hs.o (.bd zc50 (.k Parts.nil)) fun hs => ?_
   refine hs.alloc rfl ty50 zc50 fun b7 I a w hs => ?_
   refine hs.sb 3 fun hs => ?_
   refine nn ?_
   refine St.cut (σ := Ev × Int) (run 34 23 []) ⟨fun ⟨ev, p2⟩ => [], fun ⟨ev, p2⟩ => [Own.box bs 43 [AV.val (.pointer (some ⟨br, 0, none⟩)), AV.int s1.w.time, serversAV s1.w.servers, wordsAV s1.w.radio, callsAV s1.w.calls, seenAV s1.w.seen, AV.val s1.lv], Own.row s1.lv 50 11 (s1.list.map Ev.cells), Own.box br 66 [bytesAV code, AV.int (p2)], Own.box b7 50 (ev : Ev).cells], fun ⟨ev, p2⟩ => ev.Near ∧ 0 ≤ p2 ∧ p2 ≤ ((n + 4 * j + 3 : Nat) : Int)⟩ hs ?cutA4 ?cutB4
   case cutA4 =>
    refine sr <| hs.m fun hs => hs.o .gtrc fun hs => hs.m fun hs => hs.q .T .mv fun hs => ?_
    refine hs.q .T .nl fun hs => ?_
    refine hs.q .T (.fvx .ag) fun hs => ?_
    refine hs.q .T (.lbx 0 .ag) fun hs => ?_
    refine hs.q .T .mv fun hs => ?_
    refine hs.callPG 2 (guarded_T rfl rfl rfl) rfl rfl (c_spec_l6Rd_pick br code p1 odd (by omega) hcl) (args_cons .ag (args_cons .ag args_nil)) fun I a w hs => ?_
    have hq : ∀ G : Bool, ∃ p2 : Int, (bif G then Own.box br 66 [bytesAV code, AV.int (p1 + 1)] else Own.box br 66 [bytesAV code, AV.int (p1)]) = Own.box br 66 [bytesAV code, AV.int (p2)] ∧ p1 ≤ p2 ∧ p2 ≤ p1 + 1 := fun G => by cases G; exact ⟨p1, rfl, by omega, by first | omega | (dsimp only; omega) | (dsimp only; push_cast; omega) | (push_cast; omega) | simp⟩; exact ⟨p1 + 1, rfl, by omega, by first | omega | (dsimp only; omega) | (dsimp only; push_cast; omega) | (push_cast; omega) | simp⟩
    obtain ⟨p2, e2, hp2, hp3⟩ := hq (decide (0 < odd))
    change St _ _ [Own.box bs 43 [AV.val (.pointer (some ⟨br, 0, none⟩)), AV.int s1.w.time, serversAV s1.w.servers, wordsAV s1.w.radio, callsAV s1.w.calls, seenAV s1.w.seen, AV.val s1.lv], Own.row s1.lv 50 11 (s1.list.map Ev.cells), (bif decide (0 < odd) then Own.box br 66 [bytesAV code, AV.int (p1 + 1)] else Own.box br 66 [bytesAV code, AV.int (p1)]), Own.box b7 50 (⟨4, 0, 0, 0, 0, 0, 0, 0, 0, 0, 0⟩ : Ev).cells] _ _ _ at hs
    rw [e2] at hs
    refine hs.q .T (ok_eqi .ag .c) fun hs => ?_
    refine hs.o .an fun hs => nn ?_
    refine hs.cd (fun hb2 => ?_) fun hb2 => ?_
    ·skip
     refine sr <| hs.m fun hs => ?_
     refine hs.o .nl fun hs => ?_
     refine hs.o .fv fun hs => hs.o (.lb 0) fun hs => ?_
     refine hs.callM [2] (c_spec_l6Rd_pick br code (p2) (4) (by omega) hcl) (args_cons .tt (args_cons .c args_nil)) rfl (by decide) rfl fun I a w hs => ?_
     change St _ _ [Own.box bs 43 [AV.val (.pointer (some ⟨br, 0, none⟩)), AV.int s1.w.time, serversAV s1.w.servers, wordsAV s1.w.radio, callsAV s1.w.calls, seenAV s1.w.seen, AV.val s1.lv], Own.row s1.lv 50 11 (s1.list.map Ev.cells), Own.box br 66 [bytesAV code, AV.int (p2 + 1)], Own.box b7 50 (⟨4, 0, 0, 0, 0, 0, 0, 0, 0, 0, 0⟩ : Ev).cells] _ _ _ at hs
     have lo38 := pickI_lo code (p2) (4)
     have hi38 := pickI_fit code (p2) (4) (by omega)
     try have hj38 := pickI_hi code (p2) (n := 4) (by omega)
     generalize pickI code (p2) (4) = x38 at hs lo38 hi38 hj38
     refine nn <| wp_block <| sr <| hs.o .eqic fun hs => hs.s fun hs => nn ?_
     refine hs.cd (fun hb3 => ?_) fun hb3 => ?_
     ·skip
      refine St.region <| hs.o .fv fun hs => ?_
      refine hs.s1 3 fun hs => ?_
      refine wpList_nil <| block_n <| then_n ?_
      exact hs.me (⟨5, 0, 0, 0, 0, 0, 0, 0, 0, 0, 0⟩, p2 + 1) (⟨fit_mk, by first | omega | (dsimp only; omega) | (dsimp only; push_cast; omega) | (push_cast; omega) | simp, by first | omega | (dsimp only; omega) | (dsimp only; push_cast; omega) | (push_cast; omega) | simp⟩)
     ·skip
      refine sr <| hs.o .eqic fun hs => hs.s fun hs => nn ?_
      refine hs.cd (fun hb4 => ?_) fun hb4 => ?_
      ·skip
       refine St.region <| hs.o .fv fun hs => ?_
       refine hs.s1 3 fun hs => ?_
       refine wpList_nil <| block_n <| then_n ?_
       exact hs.me (⟨4, 0, 0, 0, 1, 0, 0, 0, 0, 0, 0⟩, p2 + 1) (⟨fit_mk, by first | omega | (dsimp only; omega) | (dsimp only; push_cast; omega) | (push_cast; omega) | simp, by first | omega | (dsimp only; omega) | (dsimp only; push_cast; omega) | (push_cast; omega) | simp⟩)
      ·skip
       refine hs.drawT 10 (by kernel_rfl) (by kernel_rfl) (by kernel_rfl) ?_
       simp only [List.take_succ_cons, List.take_zero, List.drop_succ_cons, List.drop_zero]
       refine .o .mv ?_
       refine .o .nl ?_
       refine .o .fv <| .o (.lb 0) <| .o .mv ?_
       refine .o .nl ?_
       refine .o .fv <| .o .fv <| .o (.lb 0) ?_
       refine .o .ln ?_
       refine .nil ?_
       intro I a w hs
       refine hs.callM [2] (c_spec_l6Rd_pick br code (p2 + 1) (s1.w.radio.length : Int) (by omega) hcl) (args_cons .tt (args_cons .tt args_nil)) rfl (by decide) rfl fun I a w hs => ?_
       refine hs.o .fv fun hs => ?_
       refine hs.s1 3 fun hs => ?_
       refine wpList_nil ?_
       change St _ _ [Own.box bs 43 [AV.val (.pointer (some ⟨br, 0, none⟩)), AV.int s1.w.time, serversAV s1.w.servers, wordsAV s1.w.radio, callsAV s1.w.calls, seenAV s1.w.seen, AV.val s1.lv], Own.row s1.lv 50 11 (s1.list.map Ev.cells), Own.box br 66 [bytesAV code, AV.int (p2 + 1 + 1)], Own.box b7 50 (⟨4, 0, 0, pickI code (p2 + 1) (s1.w.radio.length : Int), 0, 0, 0, 0, 0, 0, 0⟩ : Ev).cells] _ _ _ at hs
       have hw := pickI_fit code (p2 + 1) (s1.w.radio.length : Int) (by omega)
       generalize pickI code (p2 + 1) (s1.w.radio.length : Int) = xw at hs hw
       refine block_n <| then_n ?_
       exact hs.me (⟨4, 0, 0, xw, 0, 0, 0, 0, 0, 0, 0⟩, p2 + 1 + 1) (⟨fit_mk, by first | omega | (dsimp only; omega) | (dsimp only; push_cast; omega) | (push_cast; omega) | simp, by first | omega | (dsimp only; omega) | (dsimp only; push_cast; omega) | (push_cast; omega) | simp⟩)
    ·skip
     refine wp_skip <| then_n ?_
     exact hs.me (⟨4, 0, 0, 0, 0, 0, 0, 0, 0, 0, 0⟩, p2) (⟨fit_mk, by first | omega | (dsimp only; omega) | (dsimp only; push_cast; omega) | (push_cast; omega) | simp, by first | omega | (dsimp only; omega) | (dsimp only; push_cast; omega) | (push_cast; omega) | simp⟩)
   case cutB4 =>
    rintro ⟨ev, p2⟩ I a w hok hs
    obtain ⟨hev, hp4, hp5⟩ := hok
    change St _ _ [Own.box bs 43 [AV.val (.pointer (some ⟨br, 0, none⟩)), AV.int s1.w.time, serversAV s1.w.servers, wordsAV s1.w.radio, callsAV s1.w.calls, seenAV s1.w.seen, AV.val s1.lv], Own.row s1.lv 50 11 (s1.list.map Ev.cells), Own.box br 66 [bytesAV code, AV.int (p2)], Own.box b7 50 (ev : Ev).cells] _ _ _ at hs
    refine St.region <| hs.m fun hs => ?_
    refine hs.o (.ls 3) fun hs => ?_
    refine hs.callE [0, 1] (c_spec_l71Sim_do bs br s1 ev (n + 4 * j + 3) (hs1.mono (by omega)) (by omega) (hev)) (args_cons .tt (args_cons .tt args_nil)) rfl (by decide) rfl fun r59 I a w hok59 hs => ?_
    obtain ⟨s59, b59⟩ := r59
    change St _ _ [Own.box bs 43 [AV.val (.pointer (some ⟨br, 0, none⟩)), AV.int s59.w.time, serversAV s59.w.servers, wordsAV s59.w.radio, callsAV s59.w.calls, seenAV s59.w.seen, AV.val s59.lv], Own.row s59.lv 50 11 (s59.list.map Ev.cells), Own.box br 66 [bytesAV code, AV.int (p2)], Own.box b7 50 (ev : Ev).cells] _ _ _ at hs
    replace hok59 : SimIn ((n + 4 * j + 3) + 1) s59 := hok59
    refine wpList_nil <| block_n <| then_n <| St.region <| hs.m fun hs => ?_
    refine hs.o .ad fun hs => ?_
    refine hs.s fun hs => nn ?_
    have hs := hs.drop 3
    exact hs.ag (j + 1, s59, p2) (⟨hok59.mono (by omega), by first | omega | (dsimp only; omega) | (dsimp only; push_cast; omega) | (push_cast; omega) | simp, by first | omega | (dsimp only; omega) | (dsimp only; push_cast; omega) | (push_cast; omega) | simp, by first | omega | (dsimp only; omega) | (dsimp only; push_cast; omega) | (push_cast; omega) | simp⟩)
  ·skip
   refine wp_exit <| then_x <| then_x <| block_hit ?_
   refine hs.retnE (s1, p1) [0, 1, 2] rfl .nil (by (try dsimp only); exact ⟨hs1.mono (by omega), by first | omega | (dsimp only; omega) | (dsimp only; push_cast; omega) | (push_cast; omega) | simp, by first | omega | (dsimp only; omega) | (dsimp only; push_cast; omega) | (push_cast; omega) | simp⟩) rfl rfl
set_option maxHeartbeats 4000000 in
theorem c_spec_l71Sim_any (bs br : Nat) (code : List UInt8) (hcl : code.length ≤ 1099511627776) (s : Sim) (p : Int) (n : Nat) (h : SimIn n s) (h0 : 0 ≤ p) (h1 : p ≤ n) (hn : n ≤ 890000) (most : Int) (hm : most ≤ 30) :
    FnE Tryz.prog 45 [AV.val (.pointer (some ⟨bs, 0, none⟩)), AV.int most] [Own.box bs 43 [AV.val (.pointer (some ⟨br, 0, none⟩)), AV.int s.w.time, serversAV s.w.servers, wordsAV s.w.radio, callsAV s.w.calls, seenAV s.w.seen, AV.val s.lv], Own.row s.lv 50 11 (s.list.map Ev.cells), Own.box br 66 [bytesAV code, AV.int (p)]] (fun r : Sim × Int => SimIn (n + 60) r.1 ∧ 0 ≤ r.2 ∧ r.2 ≤ ((n + 60 : Nat) : Int)) (fun r => [Own.box bs 43 [AV.val (.pointer (some ⟨br, 0, none⟩)), AV.int r.1.w.time, serversAV r.1.w.servers, wordsAV r.1.w.radio, callsAV r.1.w.calls, seenAV r.1.w.seen, AV.val r.1.lv], Own.row r.1.lv 50 11 (r.1.list.map Ev.cells), Own.box br 66 [bytesAV code, AV.int (r.2)]]) (fun _ => AV.tup []) := by
 refine FnE.intro 33 Tryz.func45 rfl Tryz.ntmps45 rfl (by kernel_rfl) (fun W I a hs => ?_)
 refine sr <| hs.sc fun hs => nn <| wp_block ?_
 refine St.lo (σ := Nat × Sim × Int) (run 29 4 []) ⟨fun ⟨j, s1, p1⟩ => [(4, AV.int j)], fun ⟨j, s1, p1⟩ => [Own.box bs 43 [AV.val (.pointer (some ⟨br, 0, none⟩)), AV.int s1.w.time, serversAV s1.w.servers, wordsAV s1.w.radio, callsAV s1.w.calls, seenAV s1.w.seen, AV.val s1.lv], Own.row s1.lv 50 11 (s1.list.map Ev.cells), Own.box br 66 [bytesAV code, AV.int (p1)]], fun ⟨j, s1, p1⟩ => SimIn (n + 2 * j) s1 ∧ 0 ≤ p1 ∧ p1 ≤ ((n + 2 * j : Nat) : Int) ∧ j ≤ 30⟩ (fun ⟨j, s1, p1⟩ => 30 - j) (0, s, p) hs ?ok1 ?round1
 case ok1 => exact ⟨h, h0, h1, Nat.zero_le _⟩
 case round1 =>
  rintro ⟨j, s1, p1⟩ I a w hok hs
  obtain ⟨hs1, hp0, hp1, hj⟩ := hok
  change St _ _ [Own.box bs 43 [AV.val (.pointer (some ⟨br, 0, none⟩)), AV.int s1.w.time, serversAV s1.w.servers, wordsAV s1.w.radio, callsAV s1.w.calls, seenAV s1.w.seen, AV.val s1.lv], Own.row s1.lv 50 11 (s1.list.map Ev.cells), Own.box br 66 [bytesAV code, AV.int (p1)]] _ _ _ at hs
  have hrl := hs1.radio
  refine wp_seq <| sr <| hs.m fun hs => hs.m fun hs => hs.o .lss fun hs => hs.m fun hs => hs.q .T .mv fun hs => ?_
  refine hs.q .T .nl fun hs => ?_
  refine hs.q .T (.fvx .ag) fun hs => ?_
  refine hs.q .T (.fvx .ag) fun hs => ?_
  refine hs.q .T (.lbx 0 .ag) fun hs => ?_
  refine hs.q .T .ln fun hs => ?_
  refine hs.q .T (ok_gtr .ag .c) fun hs => ?_
  refine hs.o .an fun hs => nn ?_
  refine hs.cd (fun hb1 => ?_) fun hb1 => ?_
  ·simp only [B] at hb1
   refine wp_skip <| then_n <| wp_seq <| wp_block ?_
   refine hs.drawE 13 _ [([], none), ([], none), ([], none), ([], none), ([0], none), ([], none), ([], none), ([], none), ([], none), ([0], none), ([], none), ([2], some (2, [])), ([], none)] rfl (by kernel_rfl) (by kernel_rfl) rfl ?_
   simp only [List.take_succ_cons, List.take_zero]
   refine .o .mv <| .o .mv ?_
   refine .o .nl ?_
   refine .o .fv ?_
   refine .r [0] (.lb 0) ?_
   refine .o .mv ?_
   refine .o .nl ?_
   refine .o .fv <| .o .fv ?_
   refine .r [0] (.lb 0) ?_
   refine .o .ln ?_
   refine RunD.callP 2 rfl rfl (c_spec_l6Rd_pick br code p1 (s1.w.radio.length : Int) (by omega) hcl) (args_cons .tt (args_cons .tt args_nil)) ?_
   refine .o (.bd zc50 (.k (.k Parts.nil))) ?_
   refine .nil ?_
   intro I a w hs
   change St _ _ [Own.box bs 43 [AV.val (.pointer (some ⟨br, 0, none⟩)), AV.int s1.w.time, serversAV s1.w.servers, wordsAV s1.w.radio, callsAV s1.w.calls, seenAV s1.w.seen, AV.val s1.lv], Own.row s1.lv 50 11 (s1.list.map Ev.cells), Own.box br 66 [bytesAV code, AV.int (p1 + 1)]] _ _ _ at hs
   have hi30 := pickI_fit code (p1) ((s1.w.radio.length : Int)) (by omega)
   generalize pickI code (p1) ((s1.w.radio.length : Int)) = x30 at hs hi30
   show wpList _ _ _ _ _ _
   refine hs.callE [0, 1] (c_spec_l71Sim_do bs br s1 ⟨4, 0, 0, x30, 0, 0, 0, 0, 0, 0, 0⟩ (n + 2 * j + 1) (hs1.mono (by omega)) (by omega) (fit_mk)) (args_cons .tt (args_cons .tt args_nil)) rfl (by decide) rfl fun r32 I a w hok32 hs => ?_
   obtain ⟨s32, b32⟩ := r32
   change St _ _ [Own.box bs 43 [AV.val (.pointer (some ⟨br, 0, none⟩)), AV.int s32.w.time, serversAV s32.w.servers, wordsAV s32.w.radio, callsAV s32.w.calls, seenAV s32.w.seen, AV.val s32.lv], Own.row s32.lv 50 11 (s32.list.map Ev.cells), Own.box br 66 [bytesAV code, AV.int (p1 + 1)]] _ _ _ at hs
   replace hok32 : SimIn ((n + 2 * j + 1) + 1) s32 := hok32
   refine wpList_nil <| block_n <| then_n <| St.region <| hs.m fun hs => ?_
   refine hs.o .ad fun hs => ?_
   refine hs.s fun hs => nn ?_
   exact hs.ag (j + 1, s32, p1 + 1) (⟨hok32.mono (by omega), by first | omega | (dsimp only; omega) | (dsimp only; push_cast; omega) | (push_cast; omega) | simp, by first | omega | (dsimp only; omega) | (dsimp only; push_cast; omega) | (push_cast; omega) | simp, by first | omega | (dsimp only; omega) | (dsimp only; push_cast; omega) | (push_cast; omega) | simp⟩)
  ·skip
   refine wp_exit <| then_x <| then_x <| block_hit ?_
   refine hs.retnE (s1, p1) [0, 1, 2] rfl .nil (by (try dsimp only); exact ⟨hs1.mono (by omega), by first | omega | (dsimp only; omega) | (dsimp only; push_cast; omega) | (push_cast; omega) | simp, by first | omega | (dsimp only; omega) | (dsimp only; push_cast; omega) | (push_cast; omega) | simp⟩) rfl rfl
set_option maxHeartbeats 4000000 in
theorem c_spec_l71Sim_call (bs br : Nat) (code : List UInt8) (hcl : code.length ≤ 1099511627776) (s : Sim) (p : Int) (n : Nat) (h : SimIn n s) (h0 : 0 ≤ p) (h1 : p ≤ n) (hn : n ≤ 890000) (client : Int) (hc : near client) :
    FnE Tryz.prog 42 [AV.val (.pointer (some ⟨bs, 0, none⟩)), AV.int client] [Own.box bs 43 [AV.val (.pointer (some ⟨br, 0, none⟩)), AV.int s.w.time, serversAV s.w.servers, wordsAV s.w.radio, callsAV s.w.calls, seenAV s.w.seen, AV.val s.lv], Own.row s.lv 50 11 (s.list.map Ev.cells), Own.box br 66 [bytesAV code, AV.int (p)]] (fun r : Sim × Int => SimIn (n + 8) r.1 ∧ 0 ≤ r.2 ∧ r.2 ≤ ((n + 8 : Nat) : Int)) (fun r => [Own.box bs 43 [AV.val (.pointer (some ⟨br, 0, none⟩)), AV.int r.1.w.time, serversAV r.1.w.servers, wordsAV r.1.w.radio, callsAV r.1.w.calls, seenAV r.1.w.seen, AV.val r.1.lv], Own.row r.1.lv 50 11 (r.1.list.map Ev.cells), Own.box br 66 [bytesAV code, AV.int (r.2)]]) (fun _ => AV.tup []) := by
 refine FnE.intro 58 Tryz.func42 rfl Tryz.ntmps42 rfl (by kernel_rfl) (fun W I a hs => ?_)
 refine St.cut (σ := Sim × Int) (run 50 4 []) ⟨fun ⟨s2, p2⟩ => [], fun ⟨s2, p2⟩ => [Own.box bs 43 [AV.val (.pointer (some ⟨br, 0, none⟩)), AV.int s2.w.time, serversAV s2.w.servers, wordsAV s2.w.radio, callsAV s2.w.calls, seenAV s2.w.seen, AV.val s2.lv], Own.row s2.lv 50 11 (s2.list.map Ev.cells), Own.box br 66 [bytesAV code, AV.int (p2)]], fun ⟨s2, p2⟩ => SimIn (n + 6) s2 ∧ 0 ≤ p2 ∧ p2 ≤ ((n + 6 : Nat) : Int)⟩ hs ?cutA0 ?cutB0
 case cutA0 =>
  refine sr <| hs.m fun hs => ?_
  refine hs.o .nl fun hs => ?_
  refine hs.o .fv fun hs => hs.o .fv fun hs => hs.o (.lb 0) fun hs => hs.m fun hs => ?_
  refine hs.o (.cl (c_spec_l42Now s.w.calls client)) fun hs => ?_
  refine hs.o .lssc fun hs => nn ?_
  refine hs.cd (fun hb1 => ?_) fun hb1 => ?_
  ·skip
   refine wp_seq ?_
   have hs := hs.ownGone
   refine hs.drawD [([], none), ([], none), ([], none), ([], none), ([0], none), ([2], some (2, [])), ([], none), ([], none), ([], none), ([], none), ([0], none), ([2], some (2, [])), ([], none), ([], none), ([], none), ([], none), ([0], none), ([2], some (2, [])), ([], none), ([], none), ([], none), ([], none), ([], none), ([0], none), ([2], some (2, [])), ([], none), ([3], some (3, [4])), ([3], some (3, [4]))] (by kernel_rfl) (by kernel_rfl) rfl ?_
   refine .o .mv <| .o .mv ?_
   refine .o .nl ?_
   refine .o .fv ?_
   refine .r [0] (.lb 0) ?_
   refine RunD.callP 2 rfl rfl (c_spec_l6Rd_pick br code p 2 (by omega) hcl) (args_cons .tt (args_cons .c args_nil)) ?_
   refine .o (ok_add .c .tt (fun _ => by have h9 := pickI_fit code p 2 (by omega); omega)) ?_
   refine .o .mv ?_
   refine .o .nl ?_
   refine .o .fv ?_
   refine .r [0] (.lb 0) ?_
   refine RunD.callP 2 rfl rfl (c_spec_l6Rd_pick br code (p + 1) 6 (by omega) hcl) (args_cons .tt (args_cons .c args_nil)) ?_
   refine .o (.li (([0, 2, pickI code (p + 1) 6] : List Int).map intCell) zo3 (.v (.v (.v .nil)))) ?_
   refine .o .mv ?_
   refine .o .nl ?_
   refine .o .fv ?_
   refine .r [0] (.lb 0) ?_
   refine RunD.callP 2 rfl rfl (c_spec_l6Rd_pick br code (p + 1 + 1) 3 (by omega) hcl) (args_cons .tt (args_cons .c args_nil)) ?_
   refine .o ((by first | exact ok_idxN un54 ty3 .tt .tt (fun _ => by have h9 := pickI_in code (p + 1 + 1) (n := 3) (by omega); (try simp); omega) | exact ok_idxM un54 ty3 .tt .tt (fun _ => by have h9 := pickI_in code (p + 1 + 1) (n := 3) (by omega); (try simp); omega) | exact ok_idx un54 ty3 .tt .tt (fun _ => by have h9 := pickI_in code (p + 1 + 1) (n := 3) (by omega); (try simp); omega))) ?_
   refine .o .l1 <| .o .mv ?_
   refine .o .nl ?_
   refine .o .fv ?_
   refine .r [0] (.lb 0) ?_
   refine RunD.callP 2 rfl rfl (c_spec_l6Rd_pick br code (p + 1 + 1 + 1) 90 (by omega) hcl) (args_cons .tt (args_cons .c args_nil)) ?_
   refine .o (.bd zc50 (.k (.k (.k (.k (.k Parts.nil)))))) ?_
   refine RunD.alloc 3 rfl rfl ty50 zc50 <| RunD.storeN 3 rfl ty50 rfl .tt rfl rfl <| .nil ?_
   intro I a w hs
   obtain ⟨b4, hs⟩ := hs.openAt (d := 4) 3 rfl rfl
   change St _ _ [Own.box bs 43 [AV.val (.pointer (some ⟨br, 0, none⟩)), AV.int s.w.time, serversAV s.w.servers, wordsAV s.w.radio, callsAV s.w.calls, seenAV s.w.seen, AV.val s.lv], Own.row s.lv 50 11 (s.list.map Ev.cells), Own.box br 66 [bytesAV code, AV.int (p + 1 + 1 + 1 + 1)], Own.box b4 50 (⟨1, 0, client, 0, 0, 0, 1 + pickI code p 2, elt [0, 2, pickI code (p + 1) 6] (pickI code (p + 1 + 1) 3).toNat, 0, 0, pickI code (p + 1 + 1 + 1) 90⟩ : Ev).cells] _ _ _ at hs
   have hA : near (elt [0, 2, pickI code (p + 1) 6] (pickI code (p + 1 + 1) 3).toNat) := elt3_near (near_of (pickI_lo ..) (pickI_fit code (p + 1) 6 (by omega)).2)
   have hv := pickI_fit code (p + 1 + 1 + 1) 90 (by omega)
   have hca := pickI_fit code p 2 (by omega)
   obtain ⟨ca, e18⟩ : ∃ ca, ca = 1 + pickI code p 2 := ⟨_, rfl⟩
   rw [← e18] at hs
   generalize elt [0, 2, pickI code (p + 1) 6] (pickI code (p + 1 + 1) 3).toNat = av at hs hA
   generalize pickI code (p + 1 + 1 + 1) 90 = vv at hs hv
   refine then_n ?_
   refine St.cut (σ := Ev × Int) (run 12 39 []) ⟨fun ⟨ev, p3⟩ => [], fun ⟨ev, p3⟩ => [Own.box bs 43 [AV.val (.pointer (some ⟨br, 0, none⟩)), AV.int s.w.time, serversAV s.w.servers, wordsAV s.w.radio, callsAV s.w.calls, seenAV s.w.seen, AV.val s.lv], Own.row s.lv 50 11 (s.list.map Ev.cells), Own.box br 66 [bytesAV code, AV.int (p3)], Own.box b4 50 (ev : Ev).cells], fun ⟨ev, p3⟩ => ev.Near ∧ 0 ≤ p3 ∧ p3 ≤ ((n + 5 : Nat) : Int)⟩ hs ?cutA2 ?cutB2
   case cutA2 =>
    refine sr <| hs.o .fv fun hs => hs.o (.lb 3) fun hs => hs.o .eqic fun hs => nn ?_
    refine hs.cd (fun hb2 => ?_) fun hb2 => ?_
    ·skip
     refine sr <| hs.o .fv fun hs => ?_
     refine hs.s1 3 fun hs => ?_
     refine nn <| sr <| hs.o .fv fun hs => ?_
     refine hs.s1 3 fun hs => ?_
     refine nn <| sr <| hs.o .fv fun hs => ?_
     refine hs.s1 3 fun hs => ?_
     refine nn <| St.region <| hs.m fun hs => ?_
     refine hs.o .nl fun hs => ?_
     refine hs.o .fv fun hs => hs.o (.lb 0) fun hs => ?_
     refine hs.callM [2] (c_spec_l6Rd_pick br code (p + 1 + 1 + 1 + 1) (6) (by omega) hcl) (args_cons .tt (args_cons .c args_nil)) rfl (by decide) rfl fun I a w hs => ?_
     change St _ _ [Own.box bs 43 [AV.val (.pointer (some ⟨br, 0, none⟩)), AV.int s.w.time, serversAV s.w.servers, wordsAV s.w.radio, callsAV s.w.calls, seenAV s.w.seen, AV.val s.lv], Own.row s.lv 50 11 (s.list.map Ev.cells), Own.box br 66 [bytesAV code, AV.int (p + 1 + 1 + 1 + 1 + 1)], Own.box b4 50 (⟨1, 0, client, 0, 0, 0, ca, 0, 2, 0, 0⟩ : Ev).cells] _ _ _ at hs
     have lo49 := pickI_lo code (p + 1 + 1 + 1 + 1) (6)
     have hi49 := pickI_fit code (p + 1 + 1 + 1 + 1) (6) (by omega)
     try have hj49 := pickI_hi code (p + 1 + 1 + 1 + 1) (n := 6) (by omega)
     generalize pickI code (p + 1 + 1 + 1 + 1) (6) = x49 at hs lo49 hi49 hj49
     refine hs.o .fv fun hs => ?_
     refine hs.s1 3 fun hs => ?_
     refine nn ?_
     exact hs.me (⟨1, 0, client, 0, 0, 0, ca, 0, 2, x49, 0⟩, p + 1 + 1 + 1 + 1 + 1) (by first | exact ⟨fit_mk (h3 := hc), by first | omega | (dsimp only; omega) | (dsimp only; push_cast; omega) | (push_cast; omega) | simp, by first | omega | (dsimp only; omega) | (dsimp only; push_cast; omega) | (push_cast; omega) | simp⟩ | exact ⟨fit_mk (h3 := hc) (h8 := hA), by first | omega | (dsimp only; omega) | (dsimp only; push_cast; omega) | (push_cast; omega) | simp, by first | omega | (dsimp only; omega) | (dsimp only; push_cast; omega) | (push_cast; omega) | simp⟩)
    ·skip
     refine wp_skip <| then_n ?_
     exact hs.me (⟨1, 0, client, 0, 0, 0, ca, av, 0, 0, vv⟩, p + 1 + 1 + 1 + 1) (by first | exact ⟨fit_mk (h3 := hc), by first | omega | (dsimp only; omega) | (dsimp only; push_cast; omega) | (push_cast; omega) | simp, by first | omega | (dsimp only; omega) | (dsimp only; push_cast; omega) | (push_cast; omega) | simp⟩ | exact ⟨fit_mk (h3 := hc) (h8 := hA), by first | omega | (dsimp only; omega) | (dsimp only; push_cast; omega) | (push_cast; omega) | simp, by first | omega | (dsimp only; omega) | (dsimp only; push_cast; omega) | (push_cast; omega) | simp⟩)
   case cutB2 =>
    rintro ⟨ev, p3⟩ I a w hok hs
    obtain ⟨hev, hp6, hp7⟩ := hok
    change St _ _ [Own.box bs 43 [AV.val (.pointer (some ⟨br, 0, none⟩)), AV.int s.w.time, serversAV s.w.servers, wordsAV s.w.radio, callsAV s.w.calls, seenAV s.w.seen, AV.val s.lv], Own.row s.lv 50 11 (s.list.map Ev.cells), Own.box br 66 [bytesAV code, AV.int (p3)], Own.box b4 50 (ev : Ev).cells] _ _ _ at hs
    refine St.region <| hs.m fun hs => ?_
    refine hs.o (.ls 3) fun hs => ?_
    refine hs.callE [0, 1] (c_spec_l71Sim_do bs br s ev (n + 5) (h.mono (by omega)) (by omega) (hev)) (args_cons .tt (args_cons .tt args_nil)) rfl (by decide) rfl fun r53 I a w hok53 hs => ?_
    obtain ⟨s53, b53⟩ := r53
    change St _ _ [Own.box bs 43 [AV.val (.pointer (some ⟨br, 0, none⟩)), AV.int s53.w.time, serversAV s53.w.servers, wordsAV s53.w.radio, callsAV s53.w.calls, seenAV s53.w.seen, AV.val s53.lv], Own.row s53.lv 50 11 (s53.list.map Ev.cells), Own.box br 66 [bytesAV code, AV.int (p3)], Own.box b4 50 (ev : Ev).cells] _ _ _ at hs
    replace hok53 : SimIn ((n + 5) + 1) s53 := hok53
    refine nn ?_
    have hs := hs.drop 3
    exact hs.me (s53, p3) (by first | exact ⟨hok53, by first | omega | (dsimp only; omega) | (dsimp only; push_cast; omega) | (push_cast; omega) | simp, by first | omega | (dsimp only; omega) | (dsimp only; push_cast; omega) | (push_cast; omega) | simp⟩ | exact ⟨h.mono (by omega), by first | omega | (dsimp only; omega) | (dsimp only; push_cast; omega) | (push_cast; omega) | simp, by first | omega | (dsimp only; omega) | (dsimp only; push_cast; omega) | (push_cast; omega) | simp⟩)
  ·skip
   refine wp_skip <| then_n ?_
   have hs := hs.drop 3
   exact hs.me (s, p) (by first | exact ⟨hok53, by first | omega | (dsimp only; omega) | (dsimp only; push_cast; omega) | (push_cast; omega) | simp, by first | omega | (dsimp only; omega) | (dsimp only; push_cast; omega) | (push_cast; omega) | simp⟩ | exact ⟨h.mono (by omega), by first | omega | (dsimp only; omega) | (dsimp only; push_cast; omega) | (push_cast; omega) | simp, by first | omega | (dsimp only; omega) | (dsimp only; push_cast; omega) | (push_cast; omega) | simp⟩)
 case cutB0 =>
  rintro ⟨s2, p2⟩ I a w hok hs
  obtain ⟨hk2, hp4, hp5⟩ := hok
  change St _ _ [Own.box bs 43 [AV.val (.pointer (some ⟨br, 0, none⟩)), AV.int s2.w.time, serversAV s2.w.servers, wordsAV s2.w.radio, callsAV s2.w.calls, seenAV s2.w.seen, AV.val s2.lv], Own.row s2.lv 50 11 (s2.list.map Ev.cells), Own.box br 66 [bytesAV code, AV.int (p2)]] _ _ _ at hs
  refine St.region <| hs.m fun hs => hs.m fun hs => ?_
  refine hs.o (.bd zc50 (.k (.k Parts.nil))) fun hs => ?_
  refine hs.callE [0, 1] (c_spec_l71Sim_do bs br s2 ⟨2, 0, client, 0, 0, 0, 0, 0, 0, 0, 0⟩ (n + 6) hk2 (by omega) (fit_mk (h3 := hc))) (args_cons .tt (args_cons .tt args_nil)) rfl (by decide) rfl fun r57 I a w hok57 hs => ?_
  obtain ⟨s57, b57⟩ := r57
  change St _ _ [Own.box bs 43 [AV.val (.pointer (some ⟨br, 0, none⟩)), AV.int s57.w.time, serversAV s57.w.servers, wordsAV s57.w.radio, callsAV s57.w.calls, seenAV s57.w.seen, AV.val s57.lv], Own.row s57.lv 50 11 (s57.list.map Ev.cells), Own.box br 66 [bytesAV code, AV.int (p2)]] _ _ _ at hs
  replace hok57 : SimIn ((n + 6) + 1) s57 := hok57
  refine wpList_nil ?_
  refine hs.retnE (s57, p2) [0, 1, 2] rfl .nil (by (try dsimp only); exact ⟨hok57.mono (by omega), by first | omega | (dsimp only; omega) | (dsimp only; push_cast; omega) | (push_cast; omega) | simp, by first | omega | (dsimp only; omega) | (dsimp only; push_cast; omega) | (push_cast; omega) | simp⟩) rfl rfl
end Go.Proofs.YtkoebplikhlapaaGreatDoor
