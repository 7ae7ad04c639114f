/- Part 48: rules of the proofs, contracts of functions, plain facts. -/
import Derived.Test.YtkoebplikhlapaaGreatDoorP47
set_option linter.unusedVariables false
set_option linter.unusedSimpArgs false
set_option maxRecDepth 100000
namespace Go.Proofs.YtkoebplikhlapaaGreatDoor
open Go Go.RowKit
theorem c_laws_FnNeckRead (code : List UInt8) :
    Fn Tryz.prog 5 [AV.tab4 (bytesAV code)] (AV.bool true) := by
 refine Fn.intro 68 Tryz.func5 rfl Tryz.ntmps5 rfl (by kernel_rfl) (fun W I a hs => ?_)
 refine sr <| hs.sc fun hs => nn <| wp_seq <| sr <| hs.o (ok_move (.untab4 rfl)) fun hs => ?_
 refine hs.o .ln fun hs => ?_
 refine hs.o .gtrc fun hs => nn ?_
 refine hs.cd (fun hb1 => ?_) fun hb1 => ?_
 ·try simp only [B] at hb1
  refine sr <| hs.sc fun hs => nn <| wp_ret <| then_r ?_
  refine hs.rt ?_
  rfl
 ·try simp only [B] at hb1
  refine wp_skip <| then_n <| sr <| hs.o (ok_move (.untab4 rfl)) fun hs => ?_
  refine hs.callE [] (c_spec_DrawNeckRead code (by omega)) (args_cons .r args_nil) rfl (by decide) rfl fun s I a w hok15 hs => ?_
  replace hok15 : s.length ≤ 200000 := hok15
  refine hs.s fun hs => nn <| sr <| hs.m fun hs => ?_
  refine hs.o (ok_call (c_spec_NeckRead s (by omega)) (args_cons (.t rfl) args_nil)) fun hs => ?_
  refine hs.m fun hs => ?_
  refine hs.o .e fun hs => hs.o .e fun hs => hs.s fun hs => hs.s fun hs => nn <| sr <| hs.m fun hs => ?_
  refine hs.callE [] (c_impl_NeckRead (s) (by omega)) (args_cons (.tab4 (t := 0) rfl .tt) args_nil) rfl (by decide) rfl fun v23 I a w hok23 hs => ?_
  clear hok23
  refine hs.m fun hs => ?_
  refine hs.o .e fun hs => hs.o .e fun hs => hs.s fun hs => hs.s fun hs => wpList_nil ?_
  obtain ⟨I, hs, hf⟩ := hs.freezeRow 0 rfl
  have hs := hs.upd (t := 6) rfl hf; clear hf
  refine then_n <| wp_seq <| sr <| hs.m fun hs => hs.m fun hs => hs.o .nei fun hs => hs.m fun hs => hs.q .F .mv fun hs => hs.q .F .mv fun hs => ?_
  refine hs.q .F (ok_call (c_laws_liHappens (readAll (s)).1 (readAll (s)).1 (by have := readAll_len (s := s) (by omega); omega)) (args_cons .ag (args_cons .ag args_nil))) fun hs => ?_
  refine hs.q .F (.ntx .ag) fun hs => ?_
  refine hs.o .or fun hs => nn ?_
  refine hs.cd (fun hb2 => ?_) fun hb2 => ?_
  ·exfalso; simp at hb2
   skip
  ·skip
   refine wp_skip <| then_n <| wp_seq <| sr <| hs.m fun hs => hs.o .neic fun hs => nn ?_
   refine hs.cd (fun hb3 => ?_) fun hb3 => ?_
   ·skip
    refine sr <| hs.m fun hs => ?_
    refine hs.o .ln fun hs => ?_
    refine hs.o .eqic fun hs => hs.m fun hs => hs.q .T .mv fun hs => ?_
    refine hs.q .T (ok_geq .ag .c) fun hs => ?_
    refine hs.o .an fun hs => hs.s fun hs => nn <| wp_ret <| then_r ?_
    refine hs.rt ?_
    exact ret_bool (by obtain ⟨e, h6⟩ := readAll_bad (s := s) (by simpa using hb3); rw [e]; simp; omega)
   ·skip
    refine wp_skip <| then_n <| sr <| hs.m fun hs => hs.o (ok_call (c_impl_NeckWrite _ (readAll_fit s)) (args_cons (.tab41 (t := 0) rfl .tt) args_nil)) fun hs => hs.s fun hs => nn <| sr <| hs.m fun hs => ?_
    refine hs.callE [] (c_impl_NeckRead (neckW [] (readAll s).1) (by have := neckW_len (readAll s).1; omega)) (args_cons (.tab4 (t := 0) rfl .tt) args_nil) rfl (by decide) rfl fun v48 I a w hok48 hs => ?_
    clear hok48
    refine hs.m fun hs => ?_
    refine hs.o .e fun hs => hs.o .e fun hs => hs.s fun hs => hs.s fun hs => wpList_nil ?_
    obtain ⟨I, hs, hf⟩ := hs.freezeRow 1 rfl
    have hs := hs.upd (t := 9) rfl hf; clear hf
    refine then_n <| sr <| hs.m fun hs => hs.o .eqic fun hs => hs.m fun hs => hs.q .T .mv fun hs => hs.q .T .mv fun hs => ?_
    refine hs.q .T (ok_call (c_laws_liHappens (readAll (neckW [] (readAll s).1)).1 (readAll s).1 (by have := neckW_len (readAll s).1; have := readAll_len (s := neckW [] (readAll s).1) (by omega); omega)) (args_cons .ag (args_cons .ag args_nil))) fun hs => ?_
    refine hs.q .T (.mx .ag) fun hs => ?_
    refine hs.q .F2 .mv fun hs => ?_
    refine hs.q .F2 (ok_eqT .ag .c) fun hs => ?_
    refine hs.q .F2 (.mx .ag) fun hs => ?_
    refine hs.q .T2 .mv fun hs => ?_
    refine hs.q .T2 (ok_lenT un9 .ag) fun hs => ?_
    refine hs.q .T2 .ad fun hs => ?_
    refine hs.q .T2 (ok_gtr .ag .c) fun hs => ?_
    refine hs.q .F2 (ok_and .ag .pc .c) fun hs => ?_
    refine hs.q .T (ok_or .ag .c .pc) fun hs => ?_
    refine hs.o .an fun hs => hs.s fun hs => nn <| wp_ret ?_
    refine hs.rt ?_
    exact ret_bool (by obtain ⟨e, h6⟩ := read_again (s := s) (by simpa using hb3); simp [e]; rcases h6 with h6 | ⟨h6, h7⟩; exact .inl h6; exact .inr ⟨h6, by omega⟩)
end Go.Proofs.YtkoebplikhlapaaGreatDoor
