/- Part 37: rules of the proofs, contracts of functions, plain facts. -/
import Derived.Test.YtkoebplikhlapaaGreatDoorP36
set_option linter.unusedVariables false
set_option linter.unusedSimpArgs false
set_option maxRecDepth 100000
namespace Go.Proofs.YtkoebplikhlapaaGreatDoor
open Go Go.RowKit
set_option maxHeartbeats 8000000 in
theorem c_spec_l71Sim_step (bs br : Nat) (code : List UInt8) (hcl : code.length ≤ 1099511627776) (s : Sim) (p : Int) (n : Nat) (h : SimIn n s) (h0 : 0 ≤ p) (h1 : p ≤ n) (hn : n ≤ 870000) (odd : Int) :
    FnE Tryz.prog 28 [AV.val (.pointer (some ⟨bs, 0, none⟩)), AV.int odd] [Own.box bs 43 [AV.val (.pointer (some ⟨br, 0, none⟩)), AV.int s.w.time, serversAV s.w.servers, wordsAV s.w.radio, callsAV s.w.calls, seenAV s.w.seen, AV.val s.lv], Own.row s.lv 50 11 (s.list.map Ev.cells), Own.box br 66 [bytesAV code, AV.int (p)]] (fun r : Sim × Int => SimIn (n + 850) r.1 ∧ 0 ≤ r.2 ∧ r.2 ≤ ((n + 850 : Nat) : Int)) (fun r => [Own.box bs 43 [AV.val (.pointer (some ⟨br, 0, none⟩)), AV.int r.1.w.time, serversAV r.1.w.servers, wordsAV r.1.w.radio, callsAV r.1.w.calls, seenAV r.1.w.seen, AV.val r.1.lv], Own.row r.1.lv 50 11 (r.1.list.map Ev.cells), Own.box br 66 [bytesAV code, AV.int (r.2)]]) (fun _ => AV.tup []) := by
 refine FnE.intro 128 Tryz.func28 rfl Tryz.ntmps28 rfl (by kernel_rfl) (fun W I a hs => ?_)
 refine sr <| hs.m fun hs => ?_
 refine hs.o .nl fun hs => ?_
 refine hs.o .fv fun hs => hs.o (.lb 0) fun hs => ?_
 refine hs.callM [2] (c_spec_l6Rd_pick br code (p) (4) (by omega) hcl) (args_cons .tt (args_cons .c args_nil)) rfl (by decide) rfl fun I a w hs => ?_
 change St _ _ [Own.box bs 43 [AV.val (.pointer (some ⟨br, 0, none⟩)), AV.int s.w.time, serversAV s.w.servers, wordsAV s.w.radio, callsAV s.w.calls, seenAV s.w.seen, AV.val s.lv], Own.row s.lv 50 11 (s.list.map Ev.cells), Own.box br 66 [bytesAV code, AV.int (p + 1)]] _ _ _ at hs
 have lo9 := pickI_lo code (p) (4)
 have hi9 := pickI_fit code (p) (4) (by omega)
 try have hj9 := pickI_hi code (p) (n := 4) (by omega)
 generalize pickI code (p) (4) = x9 at hs lo9 hi9 hj9
 refine hs.s fun hs => nn <| sr <| hs.m fun hs => ?_
 refine hs.o .nl fun hs => ?_
 refine hs.o .fv fun hs => hs.o (.lb 0) fun hs => ?_
 refine hs.callM [2] (c_spec_l6Rd_pick br code (p + 1) (20) (by omega) hcl) (args_cons .tt (args_cons .c args_nil)) rfl (by decide) rfl fun I a w hs => ?_
 change St _ _ [Own.box bs 43 [AV.val (.pointer (some ⟨br, 0, none⟩)), AV.int s.w.time, serversAV s.w.servers, wordsAV s.w.radio, callsAV s.w.calls, seenAV s.w.seen, AV.val s.lv], Own.row s.lv 50 11 (s.list.map Ev.cells), Own.box br 66 [bytesAV code, AV.int (p + 1 + 1)]] _ _ _ at hs
 have lo14 := pickI_lo code (p + 1) (20)
 have hi14 := pickI_fit code (p + 1) (20) (by omega)
 try have hj14 := pickI_hi code (p + 1) (n := 20) (by omega)
 generalize pickI code (p + 1) (20) = x14 at hs lo14 hi14 hj14
 refine nn <| wp_block ?_
 refine St.cut (σ := Bool) (run 6 26 []) ⟨fun bb => [(26, AV.bool bb)], fun bb => [Own.box bs 43 [AV.val (.pointer (some ⟨br, 0, none⟩)), AV.int s.w.time, serversAV s.w.servers, wordsAV s.w.radio, callsAV s.w.calls, seenAV s.w.seen, AV.val s.lv], Own.row s.lv 50 11 (s.list.map Ev.cells), Own.box br 66 [bytesAV code, AV.int (p + 1 + 1)]], fun bb => True⟩ hs ?cutA5 ?cutB5
 case cutA5 =>
  refine sr <| hs.o .eqic fun hs => hs.s fun hs => nn ?_
  refine hs.cd (fun hb1 => ?_) fun hb1 => ?_
  ·skip
   refine wp_skip <| then_n ?_
   exact hs.me (x14 == 0) (by trivial)
  ·skip
   refine sr <| hs.o .eqic fun hs => hs.s fun hs => nn ?_
   refine hs.cd (fun hb2 => ?_) fun hb2 => ?_
   ·skip
    refine wp_skip <| then_n ?_
    exact hs.me (x14 == 1) (by trivial)
   ·skip
    refine sr <| hs.o .eqic fun hs => hs.s fun hs => nn ?_
    refine hs.cd (fun hb3 => ?_) fun hb3 => ?_
    ·skip
     refine wp_skip <| then_n ?_
     exact hs.me (x14 == 2) (by trivial)
    ·skip
     refine sr <| hs.o .eqic fun hs => hs.s fun hs => nn ?_
     refine hs.cd (fun hb4 => ?_) fun hb4 => ?_
     ·skip
      refine wp_skip <| then_n ?_
      exact hs.me (x14 == 3) (by trivial)
     ·skip
      refine St.region <| hs.o .eqic fun hs => hs.s fun hs => nn ?_
      exact hs.me (x14 == 4) (by trivial)
 case cutB5 =>
  rintro bb I a w hok hs
  change St _ _ [Own.box bs 43 [AV.val (.pointer (some ⟨br, 0, none⟩)), AV.int s.w.time, serversAV s.w.servers, wordsAV s.w.radio, callsAV s.w.calls, seenAV s.w.seen, AV.val s.lv], Own.row s.lv 50 11 (s.list.map Ev.cells), Own.box br 66 [bytesAV code, AV.int (p + 1 + 1)]] _ _ _ at hs
  refine hs.cd (fun hb5 => ?_) fun hb5 => ?_
  ·skip
   refine sr <| hs.m fun hs => hs.m fun hs => ?_
   refine hs.o .nl fun hs => ?_
   refine hs.o .fv fun hs => hs.o (.lb 0) fun hs => ?_
   refine hs.callM [2] (c_spec_l6Rd_pick br code (p + 1 + 1) (2) (by omega) hcl) (args_cons .tt (args_cons .c args_nil)) rfl (by decide) rfl fun I a w hs => ?_
   change St _ _ [Own.box bs 43 [AV.val (.pointer (some ⟨br, 0, none⟩)), AV.int s.w.time, serversAV s.w.servers, wordsAV s.w.radio, callsAV s.w.calls, seenAV s.w.seen, AV.val s.lv], Own.row s.lv 50 11 (s.list.map Ev.cells), Own.box br 66 [bytesAV code, AV.int (p + 1 + 1 + 1)]] _ _ _ at hs
   have lo37 := pickI_lo code (p + 1 + 1) (2)
   have hi37 := pickI_fit code (p + 1 + 1) (2) (by omega)
   try have hj37 := pickI_hi code (p + 1 + 1) (n := 2) (by omega)
   generalize pickI code (p + 1 + 1) (2) = x37 at hs lo37 hi37 hj37
   refine hs.callE [0, 1, 2] (c_spec_l71Sim_call bs br code hcl s (p + 1 + 1 + 1) (n + 3) (h.mono (by omega)) (by omega) (by omega) (by omega) x37 (near_of lo37 hi37.2)) (args_cons .tt (args_cons .tt args_nil)) rfl (by decide) rfl fun r38 I a w hok38 hs => ?_
   obtain ⟨s38, p38⟩ := r38
   change St _ _ [Own.box bs 43 [AV.val (.pointer (some ⟨br, 0, none⟩)), AV.int s38.w.time, serversAV s38.w.servers, wordsAV s38.w.radio, callsAV s38.w.calls, seenAV s38.w.seen, AV.val s38.lv], Own.row s38.lv 50 11 (s38.list.map Ev.cells), Own.box br 66 [bytesAV code, AV.int (p38)]] _ _ _ at hs
   replace hok38 : SimIn ((n + 3) + 8) s38 ∧ 0 ≤ p38 ∧ p38 ≤ (((n + 3) + 8 : Nat) : Int) := hok38
   obtain ⟨k38, l38, u38⟩ := hok38
   refine nn <| St.region <| hs.m fun hs => hs.m fun hs => ?_
   refine hs.o .nl fun hs => ?_
   refine hs.o .fv fun hs => hs.o (.lb 0) fun hs => ?_
   refine hs.callM [2] (c_spec_l6Rd_pick br code (p38) (14) (by omega) hcl) (args_cons .tt (args_cons .c args_nil)) rfl (by decide) rfl fun I a w hs => ?_
   change St _ _ [Own.box bs 43 [AV.val (.pointer (some ⟨br, 0, none⟩)), AV.int s38.w.time, serversAV s38.w.servers, wordsAV s38.w.radio, callsAV s38.w.calls, seenAV s38.w.seen, AV.val s38.lv], Own.row s38.lv 50 11 (s38.list.map Ev.cells), Own.box br 66 [bytesAV code, AV.int (p38 + 1)]] _ _ _ at hs
   have lo44 := pickI_lo code (p38) (14)
   have hi44 := pickI_fit code (p38) (14) (by omega)
   try have hj44 := pickI_hi code (p38) (n := 14) (by omega)
   generalize pickI code (p38) (14) = x44 at hs lo44 hi44 hj44
   refine hs.m fun hs => ?_
   refine hs.callE [0, 1, 2] (c_spec_l71Sim_bring bs br code hcl s38 (p38 + 1) (n + 12) (k38.mono (by omega)) (by omega) (by omega) (by omega) x44 odd (by omega)) (args_cons .tt (args_cons .tt (args_cons .tt args_nil))) rfl (by decide) rfl fun r46 I a w hok46 hs => ?_
   obtain ⟨s46, p46⟩ := r46
   change St _ _ [Own.box bs 43 [AV.val (.pointer (some ⟨br, 0, none⟩)), AV.int s46.w.time, serversAV s46.w.servers, wordsAV s46.w.radio, callsAV s46.w.calls, seenAV s46.w.seen, AV.val s46.lv], Own.row s46.lv 50 11 (s46.list.map Ev.cells), Own.box br 66 [bytesAV code, AV.int (p46)]] _ _ _ at hs
   replace hok46 : SimIn ((n + 12) + 240) s46 ∧ 0 ≤ p46 ∧ p46 ≤ (((n + 12) + 240 : Nat) : Int) := hok46
   obtain ⟨k46, l46, u46⟩ := hok46
   refine wpList_nil <| block_n ?_
   refine hs.retnE (s46, p46) [0, 1, 2] rfl .nil (by (try dsimp only); exact ⟨k46.mono (by omega), by first | omega | (dsimp only; omega) | (dsimp only; push_cast; omega) | (push_cast; omega) | simp, by first | omega | (dsimp only; omega) | (dsimp only; push_cast; omega) | (push_cast; omega) | simp⟩) rfl rfl
  ·skip
   refine St.cut (σ := Bool) (47 :: 48 :: 49 :: 50 :: 51 :: []) ⟨fun bb => [(47, AV.bool bb)], fun bb => [Own.box bs 43 [AV.val (.pointer (some ⟨br, 0, none⟩)), AV.int s.w.time, serversAV s.w.servers, wordsAV s.w.radio, callsAV s.w.calls, seenAV s.w.seen, AV.val s.lv], Own.row s.lv 50 11 (s.list.map Ev.cells), Own.box br 66 [bytesAV code, AV.int (p + 1 + 1)]], fun bb => True⟩ hs ?cutA12 ?cutB12
   case cutA12 =>
    refine sr <| hs.o .eqic fun hs => hs.s fun hs => nn ?_
    refine hs.cd (fun hb6 => ?_) fun hb6 => ?_
    ·skip
     refine wp_skip <| then_n ?_
     exact hs.me (x14 == 5) (by trivial)
    ·skip
     refine sr <| hs.o .eqic fun hs => hs.s fun hs => nn ?_
     refine hs.cd (fun hb7 => ?_) fun hb7 => ?_
     ·skip
      refine wp_skip <| then_n ?_
      exact hs.me (x14 == 6) (by trivial)
     ·skip
      refine sr <| hs.o .eqic fun hs => hs.s fun hs => nn ?_
      refine hs.cd (fun hb8 => ?_) fun hb8 => ?_
      ·skip
       refine wp_skip <| then_n ?_
       exact hs.me (x14 == 7) (by trivial)
      ·skip
       refine St.region <| hs.o .eqic fun hs => hs.s fun hs => nn ?_
       exact hs.me (x14 == 8) (by trivial)
   case cutB12 =>
    rintro bb I a w hok hs
    change St _ _ [Own.box bs 43 [AV.val (.pointer (some ⟨br, 0, none⟩)), AV.int s.w.time, serversAV s.w.servers, wordsAV s.w.radio, callsAV s.w.calls, seenAV s.w.seen, AV.val s.lv], Own.row s.lv 50 11 (s.list.map Ev.cells), Own.box br 66 [bytesAV code, AV.int (p + 1 + 1)]] _ _ _ at hs
    refine hs.cd (fun hb9 => ?_) fun hb9 => ?_
    ·skip
     refine sr <| hs.m fun hs => hs.m fun hs => ?_
     refine hs.o (.bd zc50 (.k (.k Parts.nil))) fun hs => ?_
     refine hs.callE [0, 1] (c_spec_l71Sim_do bs br s ⟨8, x9, 0, 0, 0, 0, 0, 0, 0, 0, 0⟩ (n + 2) (h.mono (by omega)) (by omega) (fit_mk)) (args_cons .tt (args_cons .tt args_nil)) rfl (by decide) rfl fun r55 I a w hok55 hs => ?_
     obtain ⟨s55, b55⟩ := r55
     change St _ _ [Own.box bs 43 [AV.val (.pointer (some ⟨br, 0, none⟩)), AV.int s55.w.time, serversAV s55.w.servers, wordsAV s55.w.radio, callsAV s55.w.calls, seenAV s55.w.seen, AV.val s55.lv], Own.row s55.lv 50 11 (s55.list.map Ev.cells), Own.box br 66 [bytesAV code, AV.int (p + 1 + 1)]] _ _ _ at hs
     replace hok55 : SimIn ((n + 2) + 1) s55 := hok55
     refine nn <| St.region <| hs.m fun hs => hs.m fun hs => ?_
     refine hs.o .nl fun hs => ?_
     refine hs.o .fv fun hs => hs.o (.lb 0) fun hs => ?_
     refine hs.callM [2] (c_spec_l6Rd_pick br code (p + 1 + 1) (14) (by omega) hcl) (args_cons .tt (args_cons .c args_nil)) rfl (by decide) rfl fun I a w hs => ?_
     change St _ _ [Own.box bs 43 [AV.val (.pointer (some ⟨br, 0, none⟩)), AV.int s55.w.time, serversAV s55.w.servers, wordsAV s55.w.radio, callsAV s55.w.calls, seenAV s55.w.seen, AV.val s55.lv], Own.row s55.lv 50 11 (s55.list.map Ev.cells), Own.box br 66 [bytesAV code, AV.int (p + 1 + 1 + 1)]] _ _ _ at hs
     have lo61 := pickI_lo code (p + 1 + 1) (14)
     have hi61 := pickI_fit code (p + 1 + 1) (14) (by omega)
     try have hj61 := pickI_hi code (p + 1 + 1) (n := 14) (by omega)
     generalize pickI code (p + 1 + 1) (14) = x61 at hs lo61 hi61 hj61
     refine hs.m fun hs => ?_
     refine hs.callE [0, 1, 2] (c_spec_l71Sim_bring bs br code hcl s55 (p + 1 + 1 + 1) (n + 3) hok55 (by omega) (by omega) (by omega) x61 odd (by omega)) (args_cons .tt (args_cons .tt (args_cons .tt args_nil))) rfl (by decide) rfl fun r63 I a w hok63 hs => ?_
     obtain ⟨s63, p63⟩ := r63
     change St _ _ [Own.box bs 43 [AV.val (.pointer (some ⟨br, 0, none⟩)), AV.int s63.w.time, serversAV s63.w.servers, wordsAV s63.w.radio, callsAV s63.w.calls, seenAV s63.w.seen, AV.val s63.lv], Own.row s63.lv 50 11 (s63.list.map Ev.cells), Own.box br 66 [bytesAV code, AV.int (p63)]] _ _ _ at hs
     replace hok63 : SimIn ((n + 3) + 240) s63 ∧ 0 ≤ p63 ∧ p63 ≤ (((n + 3) + 240 : Nat) : Int) := hok63
     obtain ⟨k63, l63, u63⟩ := hok63
     refine wpList_nil <| block_n ?_
     refine hs.retnE (s63, p63) [0, 1, 2] rfl .nil (by (try dsimp only); exact ⟨k63.mono (by omega), by first | omega | (dsimp only; omega) | (dsimp only; push_cast; omega) | (push_cast; omega) | simp, by first | omega | (dsimp only; omega) | (dsimp only; push_cast; omega) | (push_cast; omega) | simp⟩) rfl rfl
    ·skip
     refine St.cut (σ := Bool) (64 :: 65 :: 66 :: []) ⟨fun bb => [(64, AV.bool bb)], fun bb => [Own.box bs 43 [AV.val (.pointer (some ⟨br, 0, none⟩)), AV.int s.w.time, serversAV s.w.servers, wordsAV s.w.radio, callsAV s.w.calls, seenAV s.w.seen, AV.val s.lv], Own.row s.lv 50 11 (s.list.map Ev.cells), Own.box br 66 [bytesAV code, AV.int (p + 1 + 1)]], fun bb => True⟩ hs ?cutA18 ?cutB18
     case cutA18 =>
      refine sr <| hs.o .eqic fun hs => hs.s fun hs => nn ?_
      refine hs.cd (fun hb10 => ?_) fun hb10 => ?_
      ·skip
       refine wp_skip <| then_n ?_
       exact hs.me (x14 == 9) (by trivial)
      ·skip
       refine St.region <| hs.o .eqic fun hs => hs.s fun hs => nn ?_
       exact hs.me (x14 == 10) (by trivial)
     case cutB18 =>
      rintro bb I a w hok hs
      change St _ _ [Own.box bs 43 [AV.val (.pointer (some ⟨br, 0, none⟩)), AV.int s.w.time, serversAV s.w.servers, wordsAV s.w.radio, callsAV s.w.calls, seenAV s.w.seen, AV.val s.lv], Own.row s.lv 50 11 (s.list.map Ev.cells), Own.box br 66 [bytesAV code, AV.int (p + 1 + 1)]] _ _ _ at hs
      refine hs.cd (fun hb11 => ?_) fun hb11 => ?_
      ·skip
       refine St.region <| hs.m fun hs => hs.m fun hs => ?_
       refine hs.o .nl fun hs => ?_
       refine hs.o .fv fun hs => hs.o (.lb 0) fun hs => ?_
       refine hs.callM [2] (c_spec_l6Rd_pick br code (p + 1 + 1) (24) (by omega) hcl) (args_cons .tt (args_cons .c args_nil)) rfl (by decide) rfl fun I a w hs => ?_
       change St _ _ [Own.box bs 43 [AV.val (.pointer (some ⟨br, 0, none⟩)), AV.int s.w.time, serversAV s.w.servers, wordsAV s.w.radio, callsAV s.w.calls, seenAV s.w.seen, AV.val s.lv], Own.row s.lv 50 11 (s.list.map Ev.cells), Own.box br 66 [bytesAV code, AV.int (p + 1 + 1 + 1)]] _ _ _ at hs
       have lo72 := pickI_lo code (p + 1 + 1) (24)
       have hi72 := pickI_fit code (p + 1 + 1) (24) (by omega)
       try have hj72 := pickI_hi code (p + 1 + 1) (n := 24) (by omega)
       generalize pickI code (p + 1 + 1) (24) = x72 at hs lo72 hi72 hj72
       refine hs.m fun hs => ?_
       refine hs.callE [0, 1, 2] (c_spec_l71Sim_bring bs br code hcl s (p + 1 + 1 + 1) (n + 3) (h.mono (by omega)) (by omega) (by omega) (by omega) x72 odd (by omega)) (args_cons .tt (args_cons .tt (args_cons .tt args_nil))) rfl (by decide) rfl fun r74 I a w hok74 hs => ?_
       obtain ⟨s74, p74⟩ := r74
       change St _ _ [Own.box bs 43 [AV.val (.pointer (some ⟨br, 0, none⟩)), AV.int s74.w.time, serversAV s74.w.servers, wordsAV s74.w.radio, callsAV s74.w.calls, seenAV s74.w.seen, AV.val s74.lv], Own.row s74.lv 50 11 (s74.list.map Ev.cells), Own.box br 66 [bytesAV code, AV.int (p74)]] _ _ _ at hs
       replace hok74 : SimIn ((n + 3) + 240) s74 ∧ 0 ≤ p74 ∧ p74 ≤ (((n + 3) + 240 : Nat) : Int) := hok74
       obtain ⟨k74, l74, u74⟩ := hok74
       refine wpList_nil <| block_n ?_
       refine hs.retnE (s74, p74) [0, 1, 2] rfl .nil (by (try dsimp only); exact ⟨k74.mono (by omega), by first | omega | (dsimp only; omega) | (dsimp only; push_cast; omega) | (push_cast; omega) | simp, by first | omega | (dsimp only; omega) | (dsimp only; push_cast; omega) | (push_cast; omega) | simp⟩) rfl rfl
      ·skip
       refine sr <| hs.o .eqic fun hs => hs.s fun hs => nn ?_
       refine hs.cd (fun hb12 => ?_) fun hb12 => ?_
       ·skip
        refine St.region <| hs.m fun hs => hs.m fun hs => ?_
        refine hs.o (.bd zc50 (.k (.k Parts.nil))) fun hs => ?_
        refine hs.callE [0, 1] (c_spec_l71Sim_do bs br s ⟨6, x9, 0, 0, 0, 0, 0, 0, 0, 0, 0⟩ (n + 2) (h.mono (by omega)) (by omega) (fit_mk)) (args_cons .tt (args_cons .tt args_nil)) rfl (by decide) rfl fun r80 I a w hok80 hs => ?_
        obtain ⟨s80, b80⟩ := r80
        change St _ _ [Own.box bs 43 [AV.val (.pointer (some ⟨br, 0, none⟩)), AV.int s80.w.time, serversAV s80.w.servers, wordsAV s80.w.radio, callsAV s80.w.calls, seenAV s80.w.seen, AV.val s80.lv], Own.row s80.lv 50 11 (s80.list.map Ev.cells), Own.box br 66 [bytesAV code, AV.int (p + 1 + 1)]] _ _ _ at hs
        replace hok80 : SimIn ((n + 2) + 1) s80 := hok80
        refine wpList_nil <| block_n ?_
        refine hs.retnE (s80, p + 1 + 1) [0, 1, 2] rfl .nil (by (try dsimp only); exact ⟨hok80.mono (by omega), by first | omega | (dsimp only; omega) | (dsimp only; push_cast; omega) | (push_cast; omega) | simp, by first | omega | (dsimp only; omega) | (dsimp only; push_cast; omega) | (push_cast; omega) | simp⟩) rfl rfl
       ·skip
        refine St.cut (σ := Bool) (81 :: 82 :: 83 :: []) ⟨fun bb => [(81, AV.bool bb)], fun bb => [Own.box bs 43 [AV.val (.pointer (some ⟨br, 0, none⟩)), AV.int s.w.time, serversAV s.w.servers, wordsAV s.w.radio, callsAV s.w.calls, seenAV s.w.seen, AV.val s.lv], Own.row s.lv 50 11 (s.list.map Ev.cells), Own.box br 66 [bytesAV code, AV.int (p + 1 + 1)]], fun bb => True⟩ hs ?cutA23 ?cutB23
        case cutA23 =>
         refine sr <| hs.o .eqic fun hs => hs.s fun hs => nn ?_
         refine hs.cd (fun hb13 => ?_) fun hb13 => ?_
         ·skip
          refine wp_skip <| then_n ?_
          exact hs.me (x14 == 12) (by trivial)
         ·skip
          refine St.region <| hs.o .eqic fun hs => hs.s fun hs => nn ?_
          exact hs.me (x14 == 13) (by trivial)
        case cutB23 =>
         rintro bb I a w hok hs
         change St _ _ [Own.box bs 43 [AV.val (.pointer (some ⟨br, 0, none⟩)), AV.int s.w.time, serversAV s.w.servers, wordsAV s.w.radio, callsAV s.w.calls, seenAV s.w.seen, AV.val s.lv], Own.row s.lv 50 11 (s.list.map Ev.cells), Own.box br 66 [bytesAV code, AV.int (p + 1 + 1)]] _ _ _ at hs
         refine hs.cd (fun hb14 => ?_) fun hb14 => ?_
         ·skip
          refine St.region <| hs.m fun hs => hs.m fun hs => ?_
          refine hs.o (.bd zc50 (.k (.k Parts.nil))) fun hs => ?_
          refine hs.callE [0, 1] (c_spec_l71Sim_do bs br s ⟨7, x9, 0, 0, 0, 0, 0, 0, 0, 0, 0⟩ (n + 2) (h.mono (by omega)) (by omega) (fit_mk)) (args_cons .tt (args_cons .tt args_nil)) rfl (by decide) rfl fun r87 I a w hok87 hs => ?_
          obtain ⟨s87, b87⟩ := r87
          change St _ _ [Own.box bs 43 [AV.val (.pointer (some ⟨br, 0, none⟩)), AV.int s87.w.time, serversAV s87.w.servers, wordsAV s87.w.radio, callsAV s87.w.calls, seenAV s87.w.seen, AV.val s87.lv], Own.row s87.lv 50 11 (s87.list.map Ev.cells), Own.box br 66 [bytesAV code, AV.int (p + 1 + 1)]] _ _ _ at hs
          replace hok87 : SimIn ((n + 2) + 1) s87 := hok87
          refine wpList_nil <| block_n ?_
          refine hs.retnE (s87, p + 1 + 1) [0, 1, 2] rfl .nil (by (try dsimp only); exact ⟨hok87.mono (by omega), by first | omega | (dsimp only; omega) | (dsimp only; push_cast; omega) | (push_cast; omega) | simp, by first | omega | (dsimp only; omega) | (dsimp only; push_cast; omega) | (push_cast; omega) | simp⟩) rfl rfl
         ·skip
          refine St.cut (σ := Bool) (88 :: 89 :: 90 :: []) ⟨fun bb => [(88, AV.bool bb)], fun bb => [Own.box bs 43 [AV.val (.pointer (some ⟨br, 0, none⟩)), AV.int s.w.time, serversAV s.w.servers, wordsAV s.w.radio, callsAV s.w.calls, seenAV s.w.seen, AV.val s.lv], Own.row s.lv 50 11 (s.list.map Ev.cells), Own.box br 66 [bytesAV code, AV.int (p + 1 + 1)]], fun bb => True⟩ hs ?cutA26 ?cutB26
          case cutA26 =>
           refine sr <| hs.o .eqic fun hs => hs.s fun hs => nn ?_
           refine hs.cd (fun hb15 => ?_) fun hb15 => ?_
           ·skip
            refine wp_skip <| then_n ?_
            exact hs.me (x14 == 14) (by trivial)
           ·skip
            refine St.region <| hs.o .eqic fun hs => hs.s fun hs => nn ?_
            exact hs.me (x14 == 15) (by trivial)
          case cutB26 =>
           rintro bb I a w hok hs
           change St _ _ [Own.box bs 43 [AV.val (.pointer (some ⟨br, 0, none⟩)), AV.int s.w.time, serversAV s.w.servers, wordsAV s.w.radio, callsAV s.w.calls, seenAV s.w.seen, AV.val s.lv], Own.row s.lv 50 11 (s.list.map Ev.cells), Own.box br 66 [bytesAV code, AV.int (p + 1 + 1)]] _ _ _ at hs
           refine hs.cd (fun hb16 => ?_) fun hb16 => ?_
           ·skip
            refine sr <| hs.m fun hs => hs.m fun hs => hs.m fun hs => ?_
            refine hs.o .nl fun hs => ?_
            refine hs.o .fv fun hs => hs.o (.lb 0) fun hs => ?_
            refine hs.callM [2] (c_spec_l6Rd_pick br code (p + 1 + 1) (3) (by omega) hcl) (args_cons .tt (args_cons .c args_nil)) rfl (by decide) rfl fun I a w hs => ?_
            change St _ _ [Own.box bs 43 [AV.val (.pointer (some ⟨br, 0, none⟩)), AV.int s.w.time, serversAV s.w.servers, wordsAV s.w.radio, callsAV s.w.calls, seenAV s.w.seen, AV.val s.lv], Own.row s.lv 50 11 (s.list.map Ev.cells), Own.box br 66 [bytesAV code, AV.int (p + 1 + 1 + 1)]] _ _ _ at hs
            have lo97 := pickI_lo code (p + 1 + 1) (3)
            have hi97 := pickI_fit code (p + 1 + 1) (3) (by omega)
            try have hj97 := pickI_hi code (p + 1 + 1) (n := 3) (by omega)
            generalize pickI code (p + 1 + 1) (3) = x97 at hs lo97 hi97 hj97
            refine hs.o (.bd zc50 (.k (.k (.k Parts.nil)))) fun hs => ?_
            refine hs.callE [0, 1] (c_spec_l71Sim_do bs br s ⟨9, x9, 0, 0, 0, x97, 0, 0, 0, 0, 0⟩ (n + 3) (h.mono (by omega)) (by omega) (fit_mk)) (args_cons .tt (args_cons .tt args_nil)) rfl (by decide) rfl fun r99 I a w hok99 hs => ?_
            obtain ⟨s99, b99⟩ := r99
            change St _ _ [Own.box bs 43 [AV.val (.pointer (some ⟨br, 0, none⟩)), AV.int s99.w.time, serversAV s99.w.servers, wordsAV s99.w.radio, callsAV s99.w.calls, seenAV s99.w.seen, AV.val s99.lv], Own.row s99.lv 50 11 (s99.list.map Ev.cells), Own.box br 66 [bytesAV code, AV.int (p + 1 + 1 + 1)]] _ _ _ at hs
            replace hok99 : SimIn ((n + 3) + 1) s99 := hok99
            refine nn <| St.region <| hs.m fun hs => hs.m fun hs => ?_
            refine hs.o .nl fun hs => ?_
            refine hs.o .fv fun hs => hs.o (.lb 0) fun hs => ?_
            refine hs.callM [2] (c_spec_l6Rd_pick br code (p + 1 + 1 + 1) (8) (by omega) hcl) (args_cons .tt (args_cons .c args_nil)) rfl (by decide) rfl fun I a w hs => ?_
            change St _ _ [Own.box bs 43 [AV.val (.pointer (some ⟨br, 0, none⟩)), AV.int s99.w.time, serversAV s99.w.servers, wordsAV s99.w.radio, callsAV s99.w.calls, seenAV s99.w.seen, AV.val s99.lv], Own.row s99.lv 50 11 (s99.list.map Ev.cells), Own.box br 66 [bytesAV code, AV.int (p + 1 + 1 + 1 + 1)]] _ _ _ at hs
            have lo105 := pickI_lo code (p + 1 + 1 + 1) (8)
            have hi105 := pickI_fit code (p + 1 + 1 + 1) (8) (by omega)
            try have hj105 := pickI_hi code (p + 1 + 1 + 1) (n := 8) (by omega)
            generalize pickI code (p + 1 + 1 + 1) (8) = x105 at hs lo105 hi105 hj105
            refine hs.callE [0, 1, 2] (c_spec_l71Sim_any bs br code hcl s99 (p + 1 + 1 + 1 + 1) (n + 4) hok99 (by omega) (by omega) (by omega) x105 (by omega)) (args_cons .tt (args_cons .tt args_nil)) rfl (by decide) rfl fun r106 I a w hok106 hs => ?_
            obtain ⟨s106, p106⟩ := r106
            change St _ _ [Own.box bs 43 [AV.val (.pointer (some ⟨br, 0, none⟩)), AV.int s106.w.time, serversAV s106.w.servers, wordsAV s106.w.radio, callsAV s106.w.calls, seenAV s106.w.seen, AV.val s106.lv], Own.row s106.lv 50 11 (s106.list.map Ev.cells), Own.box br 66 [bytesAV code, AV.int (p106)]] _ _ _ at hs
            replace hok106 : SimIn ((n + 4) + 60) s106 ∧ 0 ≤ p106 ∧ p106 ≤ (((n + 4) + 60 : Nat) : Int) := hok106
            obtain ⟨k106, l106, u106⟩ := hok106
            refine wpList_nil <| block_n ?_
            refine hs.retnE (s106, p106) [0, 1, 2] rfl .nil (by (try dsimp only); exact ⟨k106.mono (by omega), by first | omega | (dsimp only; omega) | (dsimp only; push_cast; omega) | (push_cast; omega) | simp, by first | omega | (dsimp only; omega) | (dsimp only; push_cast; omega) | (push_cast; omega) | simp⟩) rfl rfl
           ·skip
            refine sr <| hs.o .eqic fun hs => hs.s fun hs => nn ?_
            refine hs.cd (fun hb17 => ?_) fun hb17 => ?_
            ·skip
             refine sr <| hs.m fun hs => ?_
             refine hs.o .nl fun hs => ?_
             refine hs.o .fv fun hs => hs.o (.lb 0) fun hs => ?_
             refine hs.callM [2] (c_spec_l6Rd_pick br code (p + 1 + 1) (3) (by omega) hcl) (args_cons .tt (args_cons .c args_nil)) rfl (by decide) rfl fun I a w hs => ?_
             change St _ _ [Own.box bs 43 [AV.val (.pointer (some ⟨br, 0, none⟩)), AV.int s.w.time, serversAV s.w.servers, wordsAV s.w.radio, callsAV s.w.calls, seenAV s.w.seen, AV.val s.lv], Own.row s.lv 50 11 (s.list.map Ev.cells), Own.box br 66 [bytesAV code, AV.int (p + 1 + 1 + 1)]] _ _ _ at hs
             have lo113 := pickI_lo code (p + 1 + 1) (3)
             have hi113 := pickI_fit code (p + 1 + 1) (3) (by omega)
             try have hj113 := pickI_hi code (p + 1 + 1) (n := 3) (by omega)
             generalize pickI code (p + 1 + 1) (3) = x113 at hs lo113 hi113 hj113
             refine hs.o .eqic fun hs => nn ?_
             refine hs.cd (fun hb18 => ?_) fun hb18 => ?_
             ·skip
              refine St.region <| hs.m fun hs => hs.m fun hs => ?_
              refine hs.o .nl fun hs => ?_
              refine hs.o .fv fun hs => hs.o (.lb 0) fun hs => ?_
              refine hs.callM [2] (c_spec_l6Rd_pick br code (p + 1 + 1 + 1) (2) (by omega) hcl) (args_cons .tt (args_cons .c args_nil)) rfl (by decide) rfl fun I a w hs => ?_
              change St _ _ [Own.box bs 43 [AV.val (.pointer (some ⟨br, 0, none⟩)), AV.int s.w.time, serversAV s.w.servers, wordsAV s.w.radio, callsAV s.w.calls, seenAV s.w.seen, AV.val s.lv], Own.row s.lv 50 11 (s.list.map Ev.cells), Own.box br 66 [bytesAV code, AV.int (p + 1 + 1 + 1 + 1)]] _ _ _ at hs
              have lo120 := pickI_lo code (p + 1 + 1 + 1) (2)
              have hi120 := pickI_fit code (p + 1 + 1 + 1) (2) (by omega)
              try have hj120 := pickI_hi code (p + 1 + 1 + 1) (n := 2) (by omega)
              generalize pickI code (p + 1 + 1 + 1) (2) = x120 at hs lo120 hi120 hj120
              refine hs.o (.bd zc50 (.k (.k Parts.nil))) fun hs => ?_
              refine hs.callE [0, 1] (c_spec_l71Sim_do bs br s ⟨3, 0, x120, 0, 0, 0, 0, 0, 0, 0, 0⟩ (n + 4) (h.mono (by omega)) (by omega) (fit_mk)) (args_cons .tt (args_cons .tt args_nil)) rfl (by decide) rfl fun r122 I a w hok122 hs => ?_
              obtain ⟨s122, b122⟩ := r122
              change St _ _ [Own.box bs 43 [AV.val (.pointer (some ⟨br, 0, none⟩)), AV.int s122.w.time, serversAV s122.w.servers, wordsAV s122.w.radio, callsAV s122.w.calls, seenAV s122.w.seen, AV.val s122.lv], Own.row s122.lv 50 11 (s122.list.map Ev.cells), Own.box br 66 [bytesAV code, AV.int (p + 1 + 1 + 1 + 1)]] _ _ _ at hs
              replace hok122 : SimIn ((n + 4) + 1) s122 := hok122
              refine wpList_nil <| block_n ?_
              refine hs.retnE (s122, p + 1 + 1 + 1 + 1) [0, 1, 2] rfl .nil (by (try dsimp only); exact ⟨hok122.mono (by omega), by first | omega | (dsimp only; omega) | (dsimp only; push_cast; omega) | (push_cast; omega) | simp, by first | omega | (dsimp only; omega) | (dsimp only; push_cast; omega) | (push_cast; omega) | simp⟩) rfl rfl
             ·skip
              refine wp_skip <| block_n ?_
              refine hs.retnE (s, p + 1 + 1 + 1) [0, 1, 2] rfl .nil (by (try dsimp only); exact ⟨h.mono (by omega), by first | omega | (dsimp only; omega) | (dsimp only; push_cast; omega) | (push_cast; omega) | simp, by first | omega | (dsimp only; omega) | (dsimp only; push_cast; omega) | (push_cast; omega) | simp⟩) rfl rfl
            ·skip
             refine St.cut (σ := Bool) (123 :: 124 :: 125 :: []) ⟨fun bb => [(123, AV.bool bb)], fun bb => [Own.box bs 43 [AV.val (.pointer (some ⟨br, 0, none⟩)), AV.int s.w.time, serversAV s.w.servers, wordsAV s.w.radio, callsAV s.w.calls, seenAV s.w.seen, AV.val s.lv], Own.row s.lv 50 11 (s.list.map Ev.cells), Own.box br 66 [bytesAV code, AV.int (p + 1 + 1)]], fun bb => True⟩ hs ?cutA33 ?cutB33
             case cutA33 =>
              refine sr <| hs.o .eqic fun hs => hs.s fun hs => nn ?_
              refine hs.cd (fun hb19 => ?_) fun hb19 => ?_
              ·skip
               refine wp_skip <| then_n ?_
               exact hs.me (x14 == 17) (by trivial)
              ·skip
               refine St.region <| hs.o .eqic fun hs => hs.s fun hs => nn ?_
               exact hs.me (x14 == 18) (by trivial)
             case cutB33 =>
              rintro bb I a w hok hs
              change St _ _ [Own.box bs 43 [AV.val (.pointer (some ⟨br, 0, none⟩)), AV.int s.w.time, serversAV s.w.servers, wordsAV s.w.radio, callsAV s.w.calls, seenAV s.w.seen, AV.val s.lv], Own.row s.lv 50 11 (s.list.map Ev.cells), Own.box br 66 [bytesAV code, AV.int (p + 1 + 1)]] _ _ _ at hs
              refine hs.cd (fun hb20 => ?_) fun hb20 => ?_
              ·skip
               refine St.region <| hs.m fun hs => ?_
               refine hs.callE [0, 1, 2] (c_spec_l71Sim_echo bs br code hcl s (p + 1 + 1) (n + 2) (h.mono (by omega)) (by omega) (by omega) (by omega)) (args_cons .tt args_nil) rfl (by decide) rfl fun r127 I a w hok127 hs => ?_
               obtain ⟨s127, p127⟩ := r127
               change St _ _ [Own.box bs 43 [AV.val (.pointer (some ⟨br, 0, none⟩)), AV.int s127.w.time, serversAV s127.w.servers, wordsAV s127.w.radio, callsAV s127.w.calls, seenAV s127.w.seen, AV.val s127.lv], Own.row s127.lv 50 11 (s127.list.map Ev.cells), Own.box br 66 [bytesAV code, AV.int (p127)]] _ _ _ at hs
               replace hok127 : SimIn ((n + 2) + 800) s127 ∧ 0 ≤ p127 ∧ p127 ≤ (((n + 2) + 800 : Nat) : Int) := hok127
               obtain ⟨k127, l127, u127⟩ := hok127
               refine wpList_nil <| block_n ?_
               refine hs.retnE (s127, p127) [0, 1, 2] rfl .nil (by (try dsimp only); exact ⟨k127.mono (by omega), by first | omega | (dsimp only; omega) | (dsimp only; push_cast; omega) | (push_cast; omega) | simp, by first | omega | (dsimp only; omega) | (dsimp only; push_cast; omega) | (push_cast; omega) | simp⟩) rfl rfl
              ·skip
               refine sr <| hs.m fun hs => ?_
               refine hs.callE [0, 1, 2] (c_spec_l71Sim_call bs br code hcl s (p + 1 + 1) (n + 2) (h.mono (by omega)) (by omega) (by omega) (by omega) 0 (by unfold near; omega)) (args_cons .tt (args_cons .c args_nil)) rfl (by decide) rfl fun r16 I a w hok16 hs => ?_
               obtain ⟨s16, p16⟩ := r16
               change St _ _ [Own.box bs 43 [AV.val (.pointer (some ⟨br, 0, none⟩)), AV.int s16.w.time, serversAV s16.w.servers, wordsAV s16.w.radio, callsAV s16.w.calls, seenAV s16.w.seen, AV.val s16.lv], Own.row s16.lv 50 11 (s16.list.map Ev.cells), Own.box br 66 [bytesAV code, AV.int (p16)]] _ _ _ at hs
               replace hok16 : SimIn ((n + 2) + 8) s16 ∧ 0 ≤ p16 ∧ p16 ≤ (((n + 2) + 8 : Nat) : Int) := hok16
               obtain ⟨k16, l16, u16⟩ := hok16
               refine nn <| sr <| hs.m fun hs => ?_
               refine hs.callE [0, 1, 2] (c_spec_l71Sim_call bs br code hcl s16 (p16) (n + 10) k16 (by omega) (by omega) (by omega) 1 (by unfold near; omega)) (args_cons .tt (args_cons .c args_nil)) rfl (by decide) rfl fun r18 I a w hok18 hs => ?_
               obtain ⟨s18, p18⟩ := r18
               change St _ _ [Own.box bs 43 [AV.val (.pointer (some ⟨br, 0, none⟩)), AV.int s18.w.time, serversAV s18.w.servers, wordsAV s18.w.radio, callsAV s18.w.calls, seenAV s18.w.seen, AV.val s18.lv], Own.row s18.lv 50 11 (s18.list.map Ev.cells), Own.box br 66 [bytesAV code, AV.int (p18)]] _ _ _ at hs
               replace hok18 : SimIn ((n + 10) + 8) s18 ∧ 0 ≤ p18 ∧ p18 ≤ (((n + 10) + 8 : Nat) : Int) := hok18
               obtain ⟨k18, l18, u18⟩ := hok18
               refine nn <| St.region <| hs.m fun hs => hs.m fun hs => ?_
               refine hs.o .nl fun hs => ?_
               refine hs.o .fv fun hs => hs.o (.lb 0) fun hs => ?_
               refine hs.callM [2] (c_spec_l6Rd_pick br code (p18) (30) (by omega) hcl) (args_cons .tt (args_cons .c args_nil)) rfl (by decide) rfl fun I a w hs => ?_
               change St _ _ [Own.box bs 43 [AV.val (.pointer (some ⟨br, 0, none⟩)), AV.int s18.w.time, serversAV s18.w.servers, wordsAV s18.w.radio, callsAV s18.w.calls, seenAV s18.w.seen, AV.val s18.lv], Own.row s18.lv 50 11 (s18.list.map Ev.cells), Own.box br 66 [bytesAV code, AV.int (p18 + 1)]] _ _ _ at hs
               have lo24 := pickI_lo code (p18) (30)
               have hi24 := pickI_fit code (p18) (30) (by omega)
               try have hj24 := pickI_hi code (p18) (n := 30) (by omega)
               generalize pickI code (p18) (30) = x24 at hs lo24 hi24 hj24
               refine hs.callE [0, 1, 2] (c_spec_l71Sim_any bs br code hcl s18 (p18 + 1) (n + 19) (k18.mono (by omega)) (by omega) (by omega) (by omega) x24 (by omega)) (args_cons .tt (args_cons .tt args_nil)) rfl (by decide) rfl fun r25 I a w hok25 hs => ?_
               obtain ⟨s25, p25⟩ := r25
               change St _ _ [Own.box bs 43 [AV.val (.pointer (some ⟨br, 0, none⟩)), AV.int s25.w.time, serversAV s25.w.servers, wordsAV s25.w.radio, callsAV s25.w.calls, seenAV s25.w.seen, AV.val s25.lv], Own.row s25.lv 50 11 (s25.list.map Ev.cells), Own.box br 66 [bytesAV code, AV.int (p25)]] _ _ _ at hs
               replace hok25 : SimIn ((n + 19) + 60) s25 ∧ 0 ≤ p25 ∧ p25 ≤ (((n + 19) + 60 : Nat) : Int) := hok25
               obtain ⟨k25, l25, u25⟩ := hok25
               refine wpList_nil <| block_n ?_
               refine hs.retnE (s25, p25) [0, 1, 2] rfl .nil (by (try dsimp only); exact ⟨k25.mono (by omega), by first | omega | (dsimp only; omega) | (dsimp only; push_cast; omega) | (push_cast; omega) | simp, by first | omega | (dsimp only; omega) | (dsimp only; push_cast; omega) | (push_cast; omega) | simp⟩) rfl rfl
end Go.Proofs.YtkoebplikhlapaaGreatDoor
