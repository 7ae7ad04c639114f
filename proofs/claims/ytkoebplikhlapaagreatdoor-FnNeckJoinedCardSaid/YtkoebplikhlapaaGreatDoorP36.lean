/- Part 36: rules of the proofs, contracts of functions, plain facts. -/
import Derived.Test.YtkoebplikhlapaaGreatDoorP35
set_option linter.unusedVariables false
set_option linter.unusedSimpArgs false
set_option maxRecDepth 100000
namespace Go.Proofs.YtkoebplikhlapaaGreatDoor
open Go Go.RowKit
set_option maxHeartbeats 8000000 in
theorem c_spec_l71Sim_echo (bs br : Nat) (code : List UInt8) (hcl : code.length ≤ 1099511627776) (s : Sim) (p : Int) (n : Nat) (h : SimIn n s) (h0 : 0 ≤ p) (h1 : p ≤ n) (hn : n ≤ 880000) :
    FnE Tryz.prog 46 [AV.val (.pointer (some ⟨bs, 0, none⟩))] [Own.box bs 43 [AV.val (.pointer (some ⟨br, 0, none⟩)), AV.int s.w.time, serversAV s.w.servers, wordsAV s.w.radio, callsAV s.w.calls, seenAV s.w.seen, AV.val s.lv], Own.row s.lv 50 11 (s.list.map Ev.cells), Own.box br 66 [bytesAV code, AV.int (p)]] (fun r : Sim × Int => SimIn (n + 800) r.1 ∧ 0 ≤ r.2 ∧ r.2 ≤ ((n + 800 : Nat) : Int)) (fun r => [Own.box bs 43 [AV.val (.pointer (some ⟨br, 0, none⟩)), AV.int r.1.w.time, serversAV r.1.w.servers, wordsAV r.1.w.radio, callsAV r.1.w.calls, seenAV r.1.w.seen, AV.val r.1.lv], Own.row r.1.lv 50 11 (r.1.list.map Ev.cells), Own.box br 66 [bytesAV code, AV.int (r.2)]]) (fun _ => AV.tup []) := by
 refine FnE.intro 143 Tryz.func46 rfl Tryz.ntmps46 rfl (by kernel_rfl) (fun W I a hs => ?_)
 refine sr <| hs.m fun hs => ?_
 refine hs.callE [0, 1, 2] (c_spec_l71Sim_bring bs br code hcl s (p) (n) h (by omega) (by omega) (by omega) 60 0 (by omega)) (args_cons .tt (args_cons .c (args_cons .c args_nil))) rfl (by decide) rfl fun r10 I a w hok10 hs => ?_
 obtain ⟨s10, p10⟩ := r10
 change St _ _ [Own.box bs 43 [AV.val (.pointer (some ⟨br, 0, none⟩)), AV.int s10.w.time, serversAV s10.w.servers, wordsAV s10.w.radio, callsAV s10.w.calls, seenAV s10.w.seen, AV.val s10.lv], Own.row s10.lv 50 11 (s10.list.map Ev.cells), Own.box br 66 [bytesAV code, AV.int (p10)]] _ _ _ at hs
 replace hok10 : SimIn ((n) + 240) s10 ∧ 0 ≤ p10 ∧ p10 ≤ (((n) + 240 : Nat) : Int) := hok10
 obtain ⟨k10, l10, u10⟩ := hok10
 refine nn ?_
 refine St.cut (σ := Sim × Int) (run 34 11 []) ⟨fun ⟨sA, pA⟩ => [], fun ⟨sA, pA⟩ => [Own.box bs 43 [AV.val (.pointer (some ⟨br, 0, none⟩)), AV.int sA.w.time, serversAV sA.w.servers, wordsAV sA.w.radio, callsAV sA.w.calls, seenAV sA.w.seen, AV.val sA.lv], Own.row sA.lv 50 11 (sA.list.map Ev.cells), Own.box br 66 [bytesAV code, AV.int (pA)]], fun ⟨sA, pA⟩ => SimIn (n + 250) sA ∧ 0 ≤ pA ∧ pA ≤ ((n + 250 : Nat) : Int)⟩ hs ?cutA1 ?cutB1
 case cutA1 =>
  refine sr <| hs.m fun hs => ?_
  refine hs.o .nl fun hs => ?_
  refine hs.o .fv fun hs => hs.o (.lb 0) fun hs => ?_
  refine hs.callM [2] (c_spec_l6Rd_pick br code (p10) (2) (by omega) hcl) (args_cons .tt (args_cons .c args_nil)) rfl (by decide) rfl fun I a w hs => ?_
  change St _ _ [Own.box bs 43 [AV.val (.pointer (some ⟨br, 0, none⟩)), AV.int s10.w.time, serversAV s10.w.servers, wordsAV s10.w.radio, callsAV s10.w.calls, seenAV s10.w.seen, AV.val s10.lv], Own.row s10.lv 50 11 (s10.list.map Ev.cells), Own.box br 66 [bytesAV code, AV.int (p10 + 1)]] _ _ _ at hs
  have lo15 := pickI_lo code (p10) (2)
  have hi15 := pickI_fit code (p10) (2) (by omega)
  try have hj15 := pickI_hi code (p10) (n := 2) (by omega)
  generalize pickI code (p10) (2) = x15 at hs lo15 hi15 hj15
  refine hs.o .eqic fun hs => nn ?_
  refine hs.cd (fun hb1 => ?_) fun hb1 => ?_
  ·skip
   refine St.region <| hs.m fun hs => hs.m fun hs => ?_
   refine hs.o .nl fun hs => ?_
   refine hs.o .fv fun hs => hs.o (.lb 0) fun hs => ?_
   refine hs.callM [2] (c_spec_l6Rd_pick br code (p10 + 1) (2) (by omega) hcl) (args_cons .tt (args_cons .c args_nil)) rfl (by decide) rfl fun I a w hs => ?_
   change St _ _ [Own.box bs 43 [AV.val (.pointer (some ⟨br, 0, none⟩)), AV.int s10.w.time, serversAV s10.w.servers, wordsAV s10.w.radio, callsAV s10.w.calls, seenAV s10.w.seen, AV.val s10.lv], Own.row s10.lv 50 11 (s10.list.map Ev.cells), Own.box br 66 [bytesAV code, AV.int (p10 + 1 + 1)]] _ _ _ at hs
   have lo22 := pickI_lo code (p10 + 1) (2)
   have hi22 := pickI_fit code (p10 + 1) (2) (by omega)
   try have hj22 := pickI_hi code (p10 + 1) (n := 2) (by omega)
   generalize pickI code (p10 + 1) (2) = x22 at hs lo22 hi22 hj22
   refine hs.callE [0, 1, 2] (c_spec_l71Sim_call bs br code hcl s10 (p10 + 1 + 1) (n + 242) (k10.mono (by omega)) (by omega) (by omega) (by omega) x22 (near_of lo22 hi22.2)) (args_cons .tt (args_cons .tt args_nil)) rfl (by decide) rfl fun r23 I a w hok23 hs => ?_
   obtain ⟨s23, p23⟩ := r23
   change St _ _ [Own.box bs 43 [AV.val (.pointer (some ⟨br, 0, none⟩)), AV.int s23.w.time, serversAV s23.w.servers, wordsAV s23.w.radio, callsAV s23.w.calls, seenAV s23.w.seen, AV.val s23.lv], Own.row s23.lv 50 11 (s23.list.map Ev.cells), Own.box br 66 [bytesAV code, AV.int (p23)]] _ _ _ at hs
   replace hok23 : SimIn ((n + 242) + 8) s23 ∧ 0 ≤ p23 ∧ p23 ≤ (((n + 242) + 8 : Nat) : Int) := hok23
   obtain ⟨k23, l23, u23⟩ := hok23
   refine nn ?_
   exact hs.me (s23, p23) (by first | exact ⟨k23.mono (by omega), by first | omega | (dsimp only; omega) | (dsimp only; push_cast; omega) | (push_cast; omega) | simp, by first | omega | (dsimp only; omega) | (dsimp only; push_cast; omega) | (push_cast; omega) | simp⟩ | exact ⟨hok44.mono (by omega), by first | omega | (dsimp only; omega) | (dsimp only; push_cast; omega) | (push_cast; omega) | simp, by first | omega | (dsimp only; omega) | (dsimp only; push_cast; omega) | (push_cast; omega) | simp⟩)
  ·skip
   refine wp_seq ?_
   refine hs.drawE 12 _ [([], none), ([], none), ([], none), ([], none), ([0], none), ([2], some (2, [])), ([], none), ([], none), ([], none), ([0], none), ([2], some (2, [])), ([], none)] rfl (by kernel_rfl) (by kernel_rfl) rfl ?_
   simp only [List.take_succ_cons, List.take_zero]
   refine .o .mv <| .o .mv ?_
   refine .o .nl ?_
   refine .o .fv ?_
   refine .r [0] (.lb 0) ?_
   refine RunD.callP 2 rfl rfl (c_spec_l6Rd_pick br code (p10 + 1) 4 (by omega) hcl) (args_cons .tt (args_cons .c args_nil)) ?_
   refine .o .mv ?_
   refine .o .nl ?_
   refine .o .fv ?_
   refine .r [0] (.lb 0) ?_
   refine RunD.callP 2 rfl rfl (c_spec_l6Rd_pick br code (p10 + 1 + 1) 3 (by omega) hcl) (args_cons .tt (args_cons .c args_nil)) ?_
   refine .o (.bd zc50 (.k (.k (.k Parts.nil)))) ?_
   refine .nil ?_
   intro I a w hs
   change St _ _ [Own.box bs 43 [AV.val (.pointer (some ⟨br, 0, none⟩)), AV.int s10.w.time, serversAV s10.w.servers, wordsAV s10.w.radio, callsAV s10.w.calls, seenAV s10.w.seen, AV.val s10.lv], Own.row s10.lv 50 11 (s10.list.map Ev.cells), Own.box br 66 [bytesAV code, AV.int (p10 + 1 + 1 + 1)]] _ _ _ at hs
   have lo29 := pickI_lo code (p10 + 1) (4)
   have hi29 := pickI_fit code (p10 + 1) (4) (by omega)
   try have hj29 := pickI_hi code (p10 + 1) (n := 4) (by omega)
   generalize pickI code (p10 + 1) (4) = x29 at hs lo29 hi29 hj29
   have lo34 := pickI_lo code (p10 + 1 + 1) (3)
   have hi34 := pickI_fit code (p10 + 1 + 1) (3) (by omega)
   try have hj34 := pickI_hi code (p10 + 1 + 1) (n := 3) (by omega)
   generalize pickI code (p10 + 1 + 1) (3) = x34 at hs lo34 hi34 hj34
   show wpList _ _ _ _ _ _
   refine hs.callE [0, 1] (c_spec_l71Sim_do bs br s10 ⟨9, x29, 0, 0, 0, x34, 0, 0, 0, 0, 0⟩ (n + 243) (k10.mono (by omega)) (by omega) (fit_mk)) (args_cons .tt (args_cons .tt args_nil)) rfl (by decide) rfl fun r36 I a w hok36 hs => ?_
   obtain ⟨s36, b36⟩ := r36
   change St _ _ [Own.box bs 43 [AV.val (.pointer (some ⟨br, 0, none⟩)), AV.int s36.w.time, serversAV s36.w.servers, wordsAV s36.w.radio, callsAV s36.w.calls, seenAV s36.w.seen, AV.val s36.lv], Own.row s36.lv 50 11 (s36.list.map Ev.cells), Own.box br 66 [bytesAV code, AV.int (p10 + 1 + 1 + 1)]] _ _ _ at hs
   replace hok36 : SimIn ((n + 243) + 1) s36 := hok36
   refine nn <| St.region <| hs.m fun hs => hs.m fun hs => ?_
   refine hs.o .nl fun hs => ?_
   refine hs.o .fv fun hs => hs.o (.lb 0) fun hs => ?_
   refine hs.callM [2] (c_spec_l6Rd_pick br code (p10 + 1 + 1 + 1) (4) (by omega) hcl) (args_cons .tt (args_cons .c args_nil)) rfl (by decide) rfl fun I a w hs => ?_
   change St _ _ [Own.box bs 43 [AV.val (.pointer (some ⟨br, 0, none⟩)), AV.int s36.w.time, serversAV s36.w.servers, wordsAV s36.w.radio, callsAV s36.w.calls, seenAV s36.w.seen, AV.val s36.lv], Own.row s36.lv 50 11 (s36.list.map Ev.cells), Own.box br 66 [bytesAV code, AV.int (p10 + 1 + 1 + 1 + 1)]] _ _ _ at hs
   have lo42 := pickI_lo code (p10 + 1 + 1 + 1) (4)
   have hi42 := pickI_fit code (p10 + 1 + 1 + 1) (4) (by omega)
   try have hj42 := pickI_hi code (p10 + 1 + 1 + 1) (n := 4) (by omega)
   generalize pickI code (p10 + 1 + 1 + 1) (4) = x42 at hs lo42 hi42 hj42
   refine hs.o (.bd zc50 (.k (.k Parts.nil))) fun hs => ?_
   refine hs.callE [0, 1] (c_spec_l71Sim_do bs br s36 ⟨8, x42, 0, 0, 0, 0, 0, 0, 0, 0, 0⟩ (n + 244) hok36 (by omega) (fit_mk)) (args_cons .tt (args_cons .tt args_nil)) rfl (by decide) rfl fun r44 I a w hok44 hs => ?_
   obtain ⟨s44, b44⟩ := r44
   change St _ _ [Own.box bs 43 [AV.val (.pointer (some ⟨br, 0, none⟩)), AV.int s44.w.time, serversAV s44.w.servers, wordsAV s44.w.radio, callsAV s44.w.calls, seenAV s44.w.seen, AV.val s44.lv], Own.row s44.lv 50 11 (s44.list.map Ev.cells), Own.box br 66 [bytesAV code, AV.int (p10 + 1 + 1 + 1 + 1)]] _ _ _ at hs
   replace hok44 : SimIn ((n + 244) + 1) s44 := hok44
   refine nn ?_
   exact hs.me (s44, p10 + 1 + 1 + 1 + 1) (by first | exact ⟨k23.mono (by omega), by first | omega | (dsimp only; omega) | (dsimp only; push_cast; omega) | (push_cast; omega) | simp, by first | omega | (dsimp only; omega) | (dsimp only; push_cast; omega) | (push_cast; omega) | simp⟩ | exact ⟨hok44.mono (by omega), by first | omega | (dsimp only; omega) | (dsimp only; push_cast; omega) | (push_cast; omega) | simp, by first | omega | (dsimp only; omega) | (dsimp only; push_cast; omega) | (push_cast; omega) | simp⟩)
 case cutB1 =>
  rintro ⟨sA, pA⟩ I a w hok hs
  obtain ⟨kA, lA, uA⟩ := hok
  change St _ _ [Own.box bs 43 [AV.val (.pointer (some ⟨br, 0, none⟩)), AV.int sA.w.time, serversAV sA.w.servers, wordsAV sA.w.radio, callsAV sA.w.calls, seenAV sA.w.seen, AV.val sA.lv], Own.row sA.lv 50 11 (sA.list.map Ev.cells), Own.box br 66 [bytesAV code, AV.int (pA)]] _ _ _ at hs
  refine wp_seq <| sr <| hs.sc fun hs => nn <| wp_block ?_
  refine St.lo (σ := Nat × Sim × Int) (run 3 2 (run 25 45 [])) ⟨fun ⟨i, s1, p1⟩ => [(2, AV.int i)], fun ⟨i, s1, p1⟩ => [Own.box bs 43 [AV.val (.pointer (some ⟨br, 0, none⟩)), AV.int s1.w.time, serversAV s1.w.servers, wordsAV s1.w.radio, callsAV s1.w.calls, seenAV s1.w.seen, AV.val s1.lv], Own.row s1.lv 50 11 (s1.list.map Ev.cells), Own.box br 66 [bytesAV code, AV.int (p1)]], fun ⟨i, s1, p1⟩ => SimIn (n + 260 + 61 * i) s1 ∧ 0 ≤ p1 ∧ p1 ≤ ((n + 260 + 61 * i : Nat) : Int) ∧ i ≤ 3⟩ (fun ⟨i, s1, p1⟩ => 3 - i) (0, sA, pA) hs ?ok1 ?round1
  case ok1 => exact ⟨kA.mono (by omega), lA, by first | omega | (dsimp only; omega) | (dsimp only; push_cast; omega) | (push_cast; omega) | simp, by first | omega | (dsimp only; omega) | (dsimp only; push_cast; omega) | (push_cast; omega) | simp⟩
  case round1 =>
   rintro ⟨i, s1, p1⟩ I a w hok hs
   obtain ⟨hs1, hp0, hp1, hi⟩ := hok
   change St _ _ [Own.box bs 43 [AV.val (.pointer (some ⟨br, 0, none⟩)), AV.int s1.w.time, serversAV s1.w.servers, wordsAV s1.w.radio, callsAV s1.w.calls, seenAV s1.w.seen, AV.val s1.lv], Own.row s1.lv 50 11 (s1.list.map Ev.cells), Own.box br 66 [bytesAV code, AV.int (p1)]] _ _ _ at hs
   have hrl := hs1.radio
   refine wp_seq <| sr <| hs.m fun hs => hs.m fun hs => ?_
   refine hs.o .nl fun hs => ?_
   refine hs.o .fv fun hs => hs.o (.lb 0) fun hs => ?_
   refine hs.callM [2] (c_spec_l6Rd_pick br code (p1) (3) (by omega) hcl) (args_cons .tt (args_cons .c args_nil)) rfl (by decide) rfl fun I a w hs => ?_
   change St _ _ [Own.box bs 43 [AV.val (.pointer (some ⟨br, 0, none⟩)), AV.int s1.w.time, serversAV s1.w.servers, wordsAV s1.w.radio, callsAV s1.w.calls, seenAV s1.w.seen, AV.val s1.lv], Own.row s1.lv 50 11 (s1.list.map Ev.cells), Own.box br 66 [bytesAV code, AV.int (p1 + 1)]] _ _ _ at hs
   have lo50 := pickI_lo code (p1) (3)
   have hi50 := pickI_fit code (p1) (3) (by omega)
   try have hj50 := pickI_hi code (p1) (n := 3) (by omega)
   generalize pickI code (p1) (3) = x50 at hs lo50 hi50 hj50
   refine hs.o .ad fun hs => ?_
   refine hs.o .lss fun hs => nn ?_
   refine hs.cd (fun hb2 => ?_) fun hb2 => ?_
   ·try simp only [B] at hb2
    refine wp_skip <| then_n <| wp_seq <| wp_block <| sr <| hs.m fun hs => ?_
    refine hs.o .nl fun hs => ?_
    refine hs.o .fv fun hs => hs.o .fv fun hs => hs.o (.lb 0) fun hs => ?_
    refine hs.o .ln fun hs => ?_
    refine hs.s fun hs => nn <| sr <| hs.sc fun hs => nn <| wp_block ?_
    refine St.lo (σ := Nat × Sim) (4 :: (run 9 61 [])) ⟨fun ⟨m, s2⟩ => [(4, AV.int m)], fun ⟨m, s2⟩ => [Own.box bs 43 [AV.val (.pointer (some ⟨br, 0, none⟩)), AV.int s2.w.time, serversAV s2.w.servers, wordsAV s2.w.radio, callsAV s2.w.calls, seenAV s2.w.seen, AV.val s2.lv], Own.row s2.lv 50 11 (s2.list.map Ev.cells), Own.box br 66 [bytesAV code, AV.int (p1 + 1)]], fun ⟨m, s2⟩ => SimIn (n + 260 + 61 * i + 1 + m) s2 ∧ m ≤ 60⟩ (fun ⟨m, s2⟩ => 60 - m) (0, s1) hs ?ok2 ?round2
    case ok2 => exact ⟨hs1.mono (by omega), by first | omega | (dsimp only; omega) | (dsimp only; push_cast; omega) | (push_cast; omega) | simp⟩
    case round2 =>
     rintro ⟨m, s2⟩ I a w hok hs
     obtain ⟨hs2, hm⟩ := hok
     change St _ _ [Own.box bs 43 [AV.val (.pointer (some ⟨br, 0, none⟩)), AV.int s2.w.time, serversAV s2.w.servers, wordsAV s2.w.radio, callsAV s2.w.calls, seenAV s2.w.seen, AV.val s2.lv], Own.row s2.lv 50 11 (s2.list.map Ev.cells), Own.box br 66 [bytesAV code, AV.int (p1 + 1)]] _ _ _ at hs
     refine wp_seq <| sr <| hs.m fun hs => hs.m fun hs => hs.o .lss fun hs => nn ?_
     refine hs.cd (fun hb3 => ?_) fun hb3 => ?_
     ·try simp only [B] at hb3
      refine wp_skip <| then_n <| wp_seq <| wp_block <| St.region <| hs.m fun hs => hs.m fun hs => ?_
      refine hs.o (.bd zc50 (.k (.k (.k Parts.nil)))) fun hs => ?_
      refine hs.callE [0, 1] (c_spec_l71Sim_do bs br s2 ⟨4, 0, 0, m, 1, 0, 0, 0, 0, 0, 0⟩ (n + 260 + 61 * i + 1 + m) hs2 (by omega) (fit_mk)) (args_cons .tt (args_cons .tt args_nil)) rfl (by decide) rfl fun r69 I a w hok69 hs => ?_
      obtain ⟨s69, b69⟩ := r69
      change St _ _ [Own.box bs 43 [AV.val (.pointer (some ⟨br, 0, none⟩)), AV.int s69.w.time, serversAV s69.w.servers, wordsAV s69.w.radio, callsAV s69.w.calls, seenAV s69.w.seen, AV.val s69.lv], Own.row s69.lv 50 11 (s69.list.map Ev.cells), Own.box br 66 [bytesAV code, AV.int (p1 + 1)]] _ _ _ at hs
      replace hok69 : SimIn ((n + 260 + 61 * i + 1 + m) + 1) s69 := hok69
      refine wpList_nil <| block_n <| then_n <| St.region <| hs.m fun hs => ?_
      refine hs.o .ad fun hs => ?_
      refine hs.s fun hs => nn ?_
      exact hs.ag (m + 1, s69) (⟨hok69.mono (by omega), by first | omega | (dsimp only; omega) | (dsimp only; push_cast; omega) | (push_cast; omega) | simp⟩)
     ·try simp only [B] at hb3
      refine wp_exit <| then_x <| then_x <| block_hit <| block_n <| then_n <| St.region <| hs.m fun hs => ?_
      refine hs.o .ad fun hs => ?_
      refine hs.s fun hs => nn ?_
      exact hs.ag (i + 1, s2, p1 + 1) (⟨hs2.mono (by omega), by first | omega | (dsimp only; omega) | (dsimp only; push_cast; omega) | (push_cast; omega) | simp, by first | omega | (dsimp only; omega) | (dsimp only; push_cast; omega) | (push_cast; omega) | simp, by first | omega | (dsimp only; omega) | (dsimp only; push_cast; omega) | (push_cast; omega) | simp⟩)
   ·try simp only [B] at hb2
    refine wp_exit <| then_x <| then_x <| block_hit <| then_n <| sr <| hs.m fun hs => ?_
    refine hs.o .nl fun hs => ?_
    refine hs.o .fv fun hs => hs.o .fv fun hs => hs.o (.lb 0) fun hs => ?_
    refine hs.o .ln fun hs => ?_
    refine hs.s fun hs => wpList_nil ?_
    have hhl := hs1.radio
    obtain ⟨hd, ehd⟩ : ∃ hd : Int, (s1.w.radio.length : Int) = hd := ⟨_, rfl⟩
    rw [ehd] at hs
    refine then_n <| wp_seq <| sr <| hs.m fun hs => ?_
    refine hs.o .nl fun hs => ?_
    refine hs.o .fv fun hs => hs.o (.lb 0) fun hs => ?_
    refine hs.callM [2] (c_spec_l6Rd_pick br code (p1 + 1) (3) (by omega) hcl) (args_cons .tt (args_cons .c args_nil)) rfl (by decide) rfl fun I a w hs => ?_
    change St _ _ [Own.box bs 43 [AV.val (.pointer (some ⟨br, 0, none⟩)), AV.int s1.w.time, serversAV s1.w.servers, wordsAV s1.w.radio, callsAV s1.w.calls, seenAV s1.w.seen, AV.val s1.lv], Own.row s1.lv 50 11 (s1.list.map Ev.cells), Own.box br 66 [bytesAV code, AV.int (p1 + 1 + 1)]] _ _ _ at hs
    have lo80 := pickI_lo code (p1 + 1) (3)
    have hi80 := pickI_fit code (p1 + 1) (3) (by omega)
    try have hj80 := pickI_hi code (p1 + 1) (n := 3) (by omega)
    generalize pickI code (p1 + 1) (3) = x80 at hs lo80 hi80 hj80
    refine hs.s fun hs => nn <| wp_block ?_
    refine St.lo (σ := Int × Sim × Int) (run 2 6 (run 42 81 [])) ⟨fun ⟨y, s3, p3⟩ => [(6, AV.int y)], fun ⟨y, s3, p3⟩ => [Own.box bs 43 [AV.val (.pointer (some ⟨br, 0, none⟩)), AV.int s3.w.time, serversAV s3.w.servers, wordsAV s3.w.radio, callsAV s3.w.calls, seenAV s3.w.seen, AV.val s3.lv], Own.row s3.lv 50 11 (s3.list.map Ev.cells), Own.box br 66 [bytesAV code, AV.int (p3)]], fun ⟨y, s3, p3⟩ => SimIn (n + 500 + 12 * (2 - y).toNat) s3 ∧ 0 ≤ p3 ∧ p3 ≤ ((n + 500 + 12 * (2 - y).toNat : Nat) : Int) ∧ 0 ≤ y ∧ y ≤ 2⟩ (fun ⟨y, s3, p3⟩ => y.toNat) (x80, s1, p1 + 1 + 1) hs ?ok3 ?round3
    case ok3 => exact ⟨hs1.mono (by omega), by first | omega | (dsimp only; omega) | (dsimp only; push_cast; omega) | (push_cast; omega) | simp, by first | omega | (dsimp only; omega) | (dsimp only; push_cast; omega) | (push_cast; omega) | simp, by first | omega | (dsimp only; omega) | (dsimp only; push_cast; omega) | (push_cast; omega) | simp, by first | omega | (dsimp only; omega) | (dsimp only; push_cast; omega) | (push_cast; omega) | simp⟩
    case round3 =>
     rintro ⟨y, s3, p3⟩ I a w hok hs
     obtain ⟨hs3, hp4, hp5, hy0, hy1⟩ := hok
     change St _ _ [Own.box bs 43 [AV.val (.pointer (some ⟨br, 0, none⟩)), AV.int s3.w.time, serversAV s3.w.servers, wordsAV s3.w.radio, callsAV s3.w.calls, seenAV s3.w.seen, AV.val s3.lv], Own.row s3.lv 50 11 (s3.list.map Ev.cells), Own.box br 66 [bytesAV code, AV.int (p3)]] _ _ _ at hs
     refine wp_seq <| sr <| hs.m fun hs => hs.o .gtrc fun hs => nn ?_
     refine hs.cd (fun hb4 => ?_) fun hb4 => ?_
     ·try simp only [B] at hb4
      refine wp_skip <| then_n <| wp_seq <| wp_block <| sr <| hs.m fun hs => ?_
      refine hs.o .nl fun hs => ?_
      refine hs.o .fv fun hs => hs.o (.lb 0) fun hs => ?_
      refine hs.callM [2] (c_spec_l6Rd_pick br code (p3) (4) (by omega) hcl) (args_cons .tt (args_cons .c args_nil)) rfl (by decide) rfl fun I a w hs => ?_
      change St _ _ [Own.box bs 43 [AV.val (.pointer (some ⟨br, 0, none⟩)), AV.int s3.w.time, serversAV s3.w.servers, wordsAV s3.w.radio, callsAV s3.w.calls, seenAV s3.w.seen, AV.val s3.lv], Own.row s3.lv 50 11 (s3.list.map Ev.cells), Own.box br 66 [bytesAV code, AV.int (p3 + 1)]] _ _ _ at hs
      have lo89 := pickI_lo code (p3) (4)
      have hi89 := pickI_fit code (p3) (4) (by omega)
      try have hj89 := pickI_hi code (p3) (n := 4) (by omega)
      generalize pickI code (p3) (4) = x89 at hs lo89 hi89 hj89
      refine hs.s fun hs => nn <| sr <| hs.m fun hs => ?_
      refine hs.o .nl fun hs => ?_
      refine hs.o .fv fun hs => hs.o (.lb 0) fun hs => ?_
      refine hs.callM [2] (c_spec_l6Rd_pick br code (p3 + 1) (3) (by omega) hcl) (args_cons .tt (args_cons .c args_nil)) rfl (by decide) rfl fun I a w hs => ?_
      change St _ _ [Own.box bs 43 [AV.val (.pointer (some ⟨br, 0, none⟩)), AV.int s3.w.time, serversAV s3.w.servers, wordsAV s3.w.radio, callsAV s3.w.calls, seenAV s3.w.seen, AV.val s3.lv], Own.row s3.lv 50 11 (s3.list.map Ev.cells), Own.box br 66 [bytesAV code, AV.int (p3 + 1 + 1)]] _ _ _ at hs
      have lo94 := pickI_lo code (p3 + 1) (3)
      have hi94 := pickI_fit code (p3 + 1) (3) (by omega)
      try have hj94 := pickI_hi code (p3 + 1) (n := 3) (by omega)
      generalize pickI code (p3 + 1) (3) = x94 at hs lo94 hi94 hj94
      refine nn <| wp_block <| sr <| hs.o .eqic fun hs => hs.s fun hs => nn ?_
      refine hs.cd (fun hb5 => ?_) fun hb5 => ?_
      ·skip
       refine sr <| hs.m fun hs => hs.m fun hs => ?_
       refine hs.o (.bd zc50 (.k (.k Parts.nil))) fun hs => ?_
       refine hs.callE [0, 1] (c_spec_l71Sim_do bs br s3 ⟨6, x89, 0, 0, 0, 0, 0, 0, 0, 0, 0⟩ (n + 500 + 12 * (2 - y).toNat + 2) (hs3.mono (by omega)) (by omega) (fit_mk)) (args_cons .tt (args_cons .tt args_nil)) rfl (by decide) rfl fun r107 I a w hok107 hs => ?_
       obtain ⟨s107, b107⟩ := r107
       change St _ _ [Own.box bs 43 [AV.val (.pointer (some ⟨br, 0, none⟩)), AV.int s107.w.time, serversAV s107.w.servers, wordsAV s107.w.radio, callsAV s107.w.calls, seenAV s107.w.seen, AV.val s107.lv], Own.row s107.lv 50 11 (s107.list.map Ev.cells), Own.box br 66 [bytesAV code, AV.int (p3 + 1 + 1)]] _ _ _ at hs
       replace hok107 : SimIn ((n + 500 + 12 * (2 - y).toNat + 2) + 1) s107 := hok107
       refine nn <| St.region <| hs.m fun hs => hs.m fun hs => ?_
       refine hs.o (.bd zc50 (.k (.k Parts.nil))) fun hs => ?_
       refine hs.callE [0, 1] (c_spec_l71Sim_do bs br s107 ⟨7, x89, 0, 0, 0, 0, 0, 0, 0, 0, 0⟩ (n + 500 + 12 * (2 - y).toNat + 3) hok107 (by omega) (fit_mk)) (args_cons .tt (args_cons .tt args_nil)) rfl (by decide) rfl fun r111 I a w hok111 hs => ?_
       obtain ⟨s111, b111⟩ := r111
       change St _ _ [Own.box bs 43 [AV.val (.pointer (some ⟨br, 0, none⟩)), AV.int s111.w.time, serversAV s111.w.servers, wordsAV s111.w.radio, callsAV s111.w.calls, seenAV s111.w.seen, AV.val s111.lv], Own.row s111.lv 50 11 (s111.list.map Ev.cells), Own.box br 66 [bytesAV code, AV.int (p3 + 1 + 1)]] _ _ _ at hs
       replace hok111 : SimIn ((n + 500 + 12 * (2 - y).toNat + 3) + 1) s111 := hok111
       refine wpList_nil <| block_n <| block_n <| then_n <| St.region <| hs.m fun hs => ?_
       refine hs.o .su fun hs => ?_
       refine hs.s fun hs => nn ?_
       exact hs.ag (y - 1, s111, p3 + 1 + 1) (⟨hok111.mono (by omega), by first | omega | (dsimp only; omega) | (dsimp only; push_cast; omega) | (push_cast; omega) | simp, by first | omega | (dsimp only; omega) | (dsimp only; push_cast; omega) | (push_cast; omega) | simp, by first | omega | (dsimp only; omega) | (dsimp only; push_cast; omega) | (push_cast; omega) | simp, by first | omega | (dsimp only; omega) | (dsimp only; push_cast; omega) | (push_cast; omega) | simp⟩)
      ·skip
       refine sr <| hs.o .eqic fun hs => hs.s fun hs => nn ?_
       refine hs.cd (fun hb6 => ?_) fun hb6 => ?_
       ·skip
        refine St.region <| hs.m fun hs => hs.m fun hs => hs.m fun hs => ?_
        refine hs.o .nl fun hs => ?_
        refine hs.o .fv fun hs => hs.o (.lb 0) fun hs => ?_
        refine hs.callM [2] (c_spec_l6Rd_pick br code (p3 + 1 + 1) (3) (by omega) hcl) (args_cons .tt (args_cons .c args_nil)) rfl (by decide) rfl fun I a w hs => ?_
        change St _ _ [Own.box bs 43 [AV.val (.pointer (some ⟨br, 0, none⟩)), AV.int s3.w.time, serversAV s3.w.servers, wordsAV s3.w.radio, callsAV s3.w.calls, seenAV s3.w.seen, AV.val s3.lv], Own.row s3.lv 50 11 (s3.list.map Ev.cells), Own.box br 66 [bytesAV code, AV.int (p3 + 1 + 1 + 1)]] _ _ _ at hs
        have lo120 := pickI_lo code (p3 + 1 + 1) (3)
        have hi120 := pickI_fit code (p3 + 1 + 1) (3) (by omega)
        try have hj120 := pickI_hi code (p3 + 1 + 1) (n := 3) (by omega)
        generalize pickI code (p3 + 1 + 1) (3) = x120 at hs lo120 hi120 hj120
        refine hs.o (.bd zc50 (.k (.k (.k Parts.nil)))) fun hs => ?_
        refine hs.callE [0, 1] (c_spec_l71Sim_do bs br s3 ⟨9, x89, 0, 0, 0, x120, 0, 0, 0, 0, 0⟩ (n + 500 + 12 * (2 - y).toNat + 3) (hs3.mono (by omega)) (by omega) (fit_mk)) (args_cons .tt (args_cons .tt args_nil)) rfl (by decide) rfl fun r122 I a w hok122 hs => ?_
        obtain ⟨s122, b122⟩ := r122
        change St _ _ [Own.box bs 43 [AV.val (.pointer (some ⟨br, 0, none⟩)), AV.int s122.w.time, serversAV s122.w.servers, wordsAV s122.w.radio, callsAV s122.w.calls, seenAV s122.w.seen, AV.val s122.lv], Own.row s122.lv 50 11 (s122.list.map Ev.cells), Own.box br 66 [bytesAV code, AV.int (p3 + 1 + 1 + 1)]] _ _ _ at hs
        replace hok122 : SimIn ((n + 500 + 12 * (2 - y).toNat + 3) + 1) s122 := hok122
        refine wpList_nil <| block_n <| block_n <| then_n <| St.region <| hs.m fun hs => ?_
        refine hs.o .su fun hs => ?_
        refine hs.s fun hs => nn ?_
        exact hs.ag (y - 1, s122, p3 + 1 + 1 + 1) (⟨hok122.mono (by omega), by first | omega | (dsimp only; omega) | (dsimp only; push_cast; omega) | (push_cast; omega) | simp, by first | omega | (dsimp only; omega) | (dsimp only; push_cast; omega) | (push_cast; omega) | simp, by first | omega | (dsimp only; omega) | (dsimp only; push_cast; omega) | (push_cast; omega) | simp, by first | omega | (dsimp only; omega) | (dsimp only; push_cast; omega) | (push_cast; omega) | simp⟩)
       ·skip
        refine St.region <| hs.m fun hs => hs.m fun hs => ?_
        refine hs.o .nl fun hs => ?_
        refine hs.o .fv fun hs => hs.o (.lb 0) fun hs => ?_
        refine hs.callM [2] (c_spec_l6Rd_pick br code (p3 + 1 + 1) (2) (by omega) hcl) (args_cons .tt (args_cons .c args_nil)) rfl (by decide) rfl fun I a w hs => ?_
        change St _ _ [Own.box bs 43 [AV.val (.pointer (some ⟨br, 0, none⟩)), AV.int s3.w.time, serversAV s3.w.servers, wordsAV s3.w.radio, callsAV s3.w.calls, seenAV s3.w.seen, AV.val s3.lv], Own.row s3.lv 50 11 (s3.list.map Ev.cells), Own.box br 66 [bytesAV code, AV.int (p3 + 1 + 1 + 1)]] _ _ _ at hs
        have lo100 := pickI_lo code (p3 + 1 + 1) (2)
        have hi100 := pickI_fit code (p3 + 1 + 1) (2) (by omega)
        try have hj100 := pickI_hi code (p3 + 1 + 1) (n := 2) (by omega)
        generalize pickI code (p3 + 1 + 1) (2) = x100 at hs lo100 hi100 hj100
        refine hs.callE [0, 1, 2] (c_spec_l71Sim_call bs br code hcl s3 (p3 + 1 + 1 + 1) (n + 500 + 12 * (2 - y).toNat + 3) (hs3.mono (by omega)) (by omega) (by omega) (by omega) x100 (near_of lo100 hi100.2)) (args_cons .tt (args_cons .tt args_nil)) rfl (by decide) rfl fun r101 I a w hok101 hs => ?_
        obtain ⟨s101, p101⟩ := r101
        change St _ _ [Own.box bs 43 [AV.val (.pointer (some ⟨br, 0, none⟩)), AV.int s101.w.time, serversAV s101.w.servers, wordsAV s101.w.radio, callsAV s101.w.calls, seenAV s101.w.seen, AV.val s101.lv], Own.row s101.lv 50 11 (s101.list.map Ev.cells), Own.box br 66 [bytesAV code, AV.int (p101)]] _ _ _ at hs
        replace hok101 : SimIn ((n + 500 + 12 * (2 - y).toNat + 3) + 8) s101 ∧ 0 ≤ p101 ∧ p101 ≤ (((n + 500 + 12 * (2 - y).toNat + 3) + 8 : Nat) : Int) := hok101
        obtain ⟨k101, l101, u101⟩ := hok101
        refine wpList_nil <| block_n <| block_n <| then_n <| St.region <| hs.m fun hs => ?_
        refine hs.o .su fun hs => ?_
        refine hs.s fun hs => nn ?_
        exact hs.ag (y - 1, s101, p101) (⟨k101.mono (by omega), by first | omega | (dsimp only; omega) | (dsimp only; push_cast; omega) | (push_cast; omega) | simp, by first | omega | (dsimp only; omega) | (dsimp only; push_cast; omega) | (push_cast; omega) | simp, by first | omega | (dsimp only; omega) | (dsimp only; push_cast; omega) | (push_cast; omega) | simp, by first | omega | (dsimp only; omega) | (dsimp only; push_cast; omega) | (push_cast; omega) | simp⟩)
     ·try simp only [B] at hb4
      refine wp_exit <| then_x <| then_x <| block_hit <| then_n <| wp_seq <| sr <| hs.sc fun hs => nn <| wp_block ?_
      refine St.lo (σ := Nat × Sim) (8 :: (run 18 123 [])) ⟨fun ⟨z, s4⟩ => [(8, AV.int z)], fun ⟨z, s4⟩ => [Own.box bs 43 [AV.val (.pointer (some ⟨br, 0, none⟩)), AV.int s4.w.time, serversAV s4.w.servers, wordsAV s4.w.radio, callsAV s4.w.calls, seenAV s4.w.seen, AV.val s4.lv], Own.row s4.lv 50 11 (s4.list.map Ev.cells), Own.box br 66 [bytesAV code, AV.int (p3)]], fun ⟨z, s4⟩ => SimIn (n + 540 + z) s4 ∧ z ≤ 16⟩ (fun ⟨z, s4⟩ => 16 - z) (0, s3) hs ?ok4 ?round4
      case ok4 => exact ⟨hs3.mono (by omega), by first | omega | (dsimp only; omega) | (dsimp only; push_cast; omega) | (push_cast; omega) | simp⟩
      case round4 =>
       rintro ⟨z, s4⟩ I a w hok hs
       obtain ⟨hs4, hz⟩ := hok
       change St _ _ [Own.box bs 43 [AV.val (.pointer (some ⟨br, 0, none⟩)), AV.int s4.w.time, serversAV s4.w.servers, wordsAV s4.w.radio, callsAV s4.w.calls, seenAV s4.w.seen, AV.val s4.lv], Own.row s4.lv 50 11 (s4.list.map Ev.cells), Own.box br 66 [bytesAV code, AV.int (p3)]] _ _ _ at hs
       refine wp_seq <| sr <| hs.m fun hs => hs.o .lssc fun hs => hs.m fun hs => hs.q .T .mv fun hs => ?_
       refine hs.q .T .nl fun hs => ?_
       refine hs.q .T (.fvx .ag) fun hs => ?_
       refine hs.q .T (.fvx .ag) fun hs => ?_
       refine hs.q .T (.lbx 0 .ag) fun hs => ?_
       refine hs.q .T .ln fun hs => ?_
       refine hs.q .T .mv fun hs => ?_
       refine hs.q .T (ok_gtr .ag .ag) fun hs => ?_
       refine hs.o .an fun hs => nn ?_
       refine hs.cd (fun hb7 => ?_) fun hb7 => ?_
       ·try simp only [B] at hb7
        refine wp_skip <| then_n <| wp_seq <| wp_block <| St.region <| hs.m fun hs => hs.m fun hs => ?_
        refine hs.o (.bd zc50 (.k (.k Parts.nil))) fun hs => ?_
        refine hs.callE [0, 1] (c_spec_l71Sim_do bs br s4 ⟨4, 0, 0, hd, 0, 0, 0, 0, 0, 0, 0⟩ (n + 540 + z) hs4 (by omega) (fit_mk)) (args_cons .tt (args_cons .tt args_nil)) rfl (by decide) rfl fun r140 I a w hok140 hs => ?_
        obtain ⟨s140, b140⟩ := r140
        change St _ _ [Own.box bs 43 [AV.val (.pointer (some ⟨br, 0, none⟩)), AV.int s140.w.time, serversAV s140.w.servers, wordsAV s140.w.radio, callsAV s140.w.calls, seenAV s140.w.seen, AV.val s140.lv], Own.row s140.lv 50 11 (s140.list.map Ev.cells), Own.box br 66 [bytesAV code, AV.int (p3)]] _ _ _ at hs
        replace hok140 : SimIn ((n + 540 + z) + 1) s140 := hok140
        refine wpList_nil <| block_n <| then_n <| St.region <| hs.m fun hs => ?_
        refine hs.o .ad fun hs => ?_
        refine hs.s fun hs => nn ?_
        exact hs.ag (z + 1, s140) (⟨hok140.mono (by omega), by first | omega | (dsimp only; omega) | (dsimp only; push_cast; omega) | (push_cast; omega) | simp⟩)
       ·try simp only [B] at hb7
        refine wp_exit <| then_x <| then_x <| block_hit <| then_n <| St.region <| hs.m fun hs => ?_
        refine hs.callE [0, 1, 2] (c_spec_l71Sim_bring bs br code hcl s4 (p3) (n + 560) (hs4.mono (by omega)) (by omega) (by omega) (by omega) 60 0 (by omega)) (args_cons .tt (args_cons .c (args_cons .c args_nil))) rfl (by decide) rfl fun r142 I a w hok142 hs => ?_
        obtain ⟨s142, p142⟩ := r142
        change St _ _ [Own.box bs 43 [AV.val (.pointer (some ⟨br, 0, none⟩)), AV.int s142.w.time, serversAV s142.w.servers, wordsAV s142.w.radio, callsAV s142.w.calls, seenAV s142.w.seen, AV.val s142.lv], Own.row s142.lv 50 11 (s142.list.map Ev.cells), Own.box br 66 [bytesAV code, AV.int (p142)]] _ _ _ at hs
        replace hok142 : SimIn ((n + 560) + 240) s142 ∧ 0 ≤ p142 ∧ p142 ≤ (((n + 560) + 240 : Nat) : Int) := hok142
        obtain ⟨k142, l142, u142⟩ := hok142
        refine wpList_nil ?_
        refine hs.retnE (s142, p142) [0, 1, 2] rfl .nil (by (try dsimp only); exact ⟨k142.mono (by omega), by first | omega | (dsimp only; omega) | (dsimp only; push_cast; omega) | (push_cast; omega) | simp, by first | omega | (dsimp only; omega) | (dsimp only; push_cast; omega) | (push_cast; omega) | simp⟩) rfl rfl
end Go.Proofs.YtkoebplikhlapaaGreatDoor
