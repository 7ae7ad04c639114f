/- Part 50: rules of the proofs, contracts of functions, plain facts. -/
import Derived.Test.YtkoebplikhlapaaGreatDoorP47
set_option linter.unusedVariables false
set_option linter.unusedSimpArgs false
set_option maxRecDepth 100000
namespace Go.Proofs.YtkoebplikhlapaaGreatDoor
open Go Go.RowKit
theorem c_laws_FnNeckJoined (code more : List UInt8) :
    Fn Tryz.prog 3 [AV.tab4 (bytesAV code), AV.tab4 (bytesAV more)] (AV.bool true) := by
 refine Fn.intro 100 Tryz.func3 rfl Tryz.ntmps3 rfl (by kernel_rfl) (fun W I a hs => ?_)
 refine sr <| hs.sc fun hs => nn <| wp_seq <| sr <| hs.o (ok_move (.untab4 rfl)) fun hs => ?_
 refine hs.o .ln fun hs => ?_
 refine hs.o .gtrc fun hs => hs.m fun hs => hs.q .F (ok_move (.untab4 rfl)) fun hs => ?_
 refine hs.q .F .ln fun hs => ?_
 refine hs.q .F (ok_gtr .ag .c) fun hs => ?_
 refine hs.o .or fun hs => nn ?_
 refine hs.cd (fun hb1 => ?_) fun hb1 => ?_
 ·try simp only [B] at hb1
  refine sr <| hs.sc fun hs => nn <| wp_ret <| then_r ?_
  refine hs.rt ?_
  rfl
 ·try simp only [B] at hb1
  refine wp_skip <| then_n <| sr <| hs.o (ok_move (.untab4 rfl)) fun hs => ?_
  refine hs.callE [] (c_spec_DrawNeckRead code (by omega)) (args_cons .r args_nil) rfl (by decide) rfl fun s I a w hok24 hs => ?_
  replace hok24 : s.length ≤ 200000 := hok24
  refine hs.s fun hs => nn <| sr <| hs.o (ok_move (.untab4 rfl)) fun hs => ?_
  refine hs.callE [] (c_spec_DrawNeckRead more (by omega)) (args_cons .r args_nil) rfl (by decide) rfl fun u I a w hok26 hs => ?_
  replace hok26 : u.length ≤ 200000 := hok26
  refine hs.s fun hs => nn <| sr <| hs.m fun hs => ?_
  refine hs.o (ok_call (c_spec_NeckRead s (by omega)) (args_cons (.t rfl) args_nil)) fun hs => ?_
  refine hs.m fun hs => ?_
  refine hs.o .e fun hs => hs.o .e fun hs => hs.s fun hs => hs.s fun hs => nn <| sr <| hs.m fun hs => ?_
  refine hs.callE [] (c_impl_NeckRead (s) (by omega)) (args_cons (.tab4 (t := 0) rfl .tt) args_nil) rfl (by decide) rfl fun v34 I a w hok34 hs => ?_
  clear hok34
  refine hs.m fun hs => ?_
  refine hs.o .e fun hs => hs.o .e fun hs => hs.s fun hs => hs.s fun hs => wpList_nil ?_
  obtain ⟨I, hs, hf⟩ := hs.freezeRow 0 rfl
  have hs := hs.upd (t := 9) rfl hf; clear hf
  refine then_n <| wp_seq <| sr <| hs.m fun hs => hs.m fun hs => hs.o .nei fun hs => hs.m fun hs => hs.q .F .mv fun hs => hs.q .F .mv fun hs => ?_
  refine hs.q .F (ok_call (c_laws_liHappens (readAll (s)).1 (readAll (s)).1 (by have := readAll_len (s := s) (by omega); omega)) (args_cons .ag (args_cons .ag args_nil))) fun hs => ?_
  refine hs.q .F (.ntx .ag) fun hs => ?_
  refine hs.o .or fun hs => hs.m fun hs => hs.q .F .mv fun hs => ?_
  refine hs.q .F (ok_lenT un9 .ag) fun hs => ?_
  refine hs.q .F .mv fun hs => ?_
  refine hs.q .F (ok_lenT un9 .ag) fun hs => ?_
  refine hs.q .F .ad fun hs => ?_
  refine hs.q .F .ad fun hs => ?_
  refine hs.q .F (ok_gtr .ag .c) fun hs => ?_
  refine hs.o .or fun hs => nn ?_
  refine hs.cd (fun hb2 => ?_) fun hb2 => ?_
  ·skip
   refine sr <| hs.m fun hs => hs.m fun hs => hs.o .eqi fun hs => hs.m fun hs => hs.q .T .mv fun hs => hs.q .T .mv fun hs => ?_
   refine hs.q .T (ok_call (c_laws_liHappens (readAll (s)).1 (readAll (s)).1 (by have := readAll_len (s := s) (by omega); omega)) (args_cons .ag (args_cons .ag args_nil))) fun hs => ?_
   refine hs.o .an fun hs => hs.s fun hs => nn <| wp_ret <| then_r ?_
   refine hs.rt ?_
   exact ret_bool (by simp)
  ·have hlen : s.length + u.length + 1 ≤ 60000 := by simp at hb2; omega
   refine wp_skip <| then_n <| sr <| hs.m fun hs => ?_
   refine hs.callE [] (c_impl_NeckRead (u) (by omega)) (args_cons (.tab4 (t := 0) rfl .tt) args_nil) rfl (by decide) rfl fun v65 I a w hok65 hs => ?_
   clear hok65
   refine hs.m fun hs => ?_
   refine hs.o .e fun hs => hs.o .e fun hs => hs.s fun hs => hs.s fun hs => wpList_nil ?_
   obtain ⟨I, hs, hf⟩ := hs.freezeRow 1 rfl
   have hs := hs.upd (t := 11) rfl hf; clear hf
   refine then_n <| sr <| hs.m fun hs => ?_
   refine hs.o (ok_cat (k' := [10]) .tt .c (fun _ => by simp; omega)) fun hs => ?_
   refine hs.m fun hs => ?_
   refine hs.o (ok_cat .tt .tt (fun _ => by simp; omega)) fun hs => ?_
   refine hs.callE [] (c_impl_NeckRead (s ++ [10] ++ u) (by simp; omega)) (args_cons (.tab4 (t := 0) rfl .tt) args_nil) rfl (by decide) rfl fun v73 I a w hok73 hs => ?_
   clear hok73
   refine hs.m fun hs => ?_
   refine hs.o .e fun hs => hs.o .e fun hs => hs.s fun hs => hs.s fun hs => wpList_nil ?_
   obtain ⟨I, hs, hf⟩ := hs.freezeRow 2 rfl
   have hs := hs.upd (t := 13) rfl hf; clear hf
   refine then_n <| wp_seq <| sr <| hs.m fun hs => hs.o .neic fun hs => hs.m fun hs => hs.q .F .mv fun hs => ?_
   refine hs.q .F (ok_nei .ag .c) fun hs => ?_
   refine hs.o .or fun hs => nn ?_
   refine hs.cd (fun hb3 => ?_) fun hb3 => ?_
   ·skip
    refine sr <| hs.m fun hs => hs.o .neic fun hs => hs.m fun hs => hs.q .T .mv fun hs => ?_
    refine hs.q .T .ln fun hs => ?_
    refine hs.q .T (ok_eqi .ag .c) fun hs => ?_
    refine hs.o .an fun hs => hs.s fun hs => nn <| wp_ret <| then_r ?_
    refine hs.rt ?_
    exact ret_bool (by obtain ⟨e, h6⟩ := read_two_bad (a := s) (b := u) hlen (by simp only [Bool.or_eq_true, bne_iff_ne, ne_eq] at hb3; exact hb3); simp only [List.append_assoc, List.cons_append, List.nil_append] at e h6 ⊢; simp [e, h6])
   ·have hj := read_two (a := s) (b := u) hlen (by simp at hb3; exact hb3.1) (by simp at hb3; exact hb3.2)
    rw [hj] at hs
    refine wp_skip <| then_n <| sr <| hs.m fun hs => hs.o .eqic fun hs => hs.m fun hs => hs.q .T .mv fun hs => ?_
    refine wpList_true hs (guarded_T rfl rfl rfl) ?_
    refine hs.lit0 rfl un24 ty50 (by decide) fun b93 I a w hs => ?_
    refine hs.q .T .mv fun hs => ?_
    refine wpList_true hs (guarded_T rfl rfl rfl) ?_
    refine hs.append 3 rfl un24 ty50 rfl .tt .ag rfl (by have h7 := readAll_len (s := s) (by omega); simp; omega) fun v95 a w hs => ?_
    refine hs.q .T .mv fun hs => ?_
    refine wpList_true hs (guarded_T rfl rfl rfl) ?_
    refine hs.append 3 rfl un24 ty50 rfl .tt .ag rfl (by have h7 := readAll_len (s := s) (by omega); have h8 := readAll_len (s := u) (by omega); simp; omega) fun v97 a w hs => ?_
    simp only [List.nil_append, ← List.map_append] at hs
    obtain ⟨I, hs, hf⟩ := hs.freezeRow 3 rfl
    have hs := hs.upd (t := 97) rfl hf; clear hf
    refine hs.q .T (ok_call (c_laws_liHappens ((readAll s).1 ++ (readAll u).1) ((readAll s).1 ++ (readAll u).1) (by have := readAll_len (s := s) (by omega); have := readAll_len (s := u) (by omega); simp; omega)) (args_cons .ag (args_cons .r args_nil))) fun hs => ?_
    refine hs.o .an fun hs => hs.s fun hs => nn <| wp_ret ?_
    refine hs.rt ?_
    exact ret_bool (by simp)
end Go.Proofs.YtkoebplikhlapaaGreatDoor
