/- Part 45: rules of the proofs, contracts of functions, plain facts. -/
import Derived.Test.YtkoebplikhlapaaGreatDoorP44
set_option linter.unusedVariables false
set_option linter.unusedSimpArgs false
set_option maxRecDepth 100000
namespace Go.Proofs.YtkoebplikhlapaaGreatDoor
open Go Go.RowKit
set_option maxHeartbeats 8000000 in
theorem c_spec_DrawNeckWrite (code : List UInt8) (hcl : code.length ≤ 1099511627776) :
    FnE Tryz.prog 10 [bytesAV code] [] (fun r : List Ev × Value => r.1.length ≤ 30000 ∧ ∀ e ∈ r.1, e.Fit) (fun r => [Own.row r.2 50 11 (r.1.map Ev.cells)]) (fun r => AV.val r.2) := by
 refine FnE.intro 106 Tryz.func10 rfl Tryz.ntmps10 rfl (by kernel_rfl) (fun W I a hs => ?_)
 refine sr <| hs.sc fun hs => nn <| sr <| hs.m fun hs => ?_
 refine hs.callE [] (c_spec_l6Open code hcl) (args_cons .r args_nil) rfl (by decide) rfl fun r8 I a w hok8 hs => ?_
 obtain ⟨br, cd⟩ := r8
 replace hok8 : cd.length ≤ 1099511627776 := hok8
 change St _ _ [Own.box br 66 [bytesAV cd, AV.int (0)]] _ _ _ at hs
 have hcd := hok8
 refine hs.s fun hs => nn <| sr <| hs.m fun hs => ?_
 refine hs.callE [0] (c_spec_l71Play br cd hcd (0) 0 (by omega) (by omega) (by omega) 16 (by omega)) (args_cons .tt (args_cons .c args_nil)) rfl (by decide) rfl fun r10 I a w hok10 hs => ?_
 obtain ⟨bs, s1, p1⟩ := r10
 replace hok10 : SimIn (0 + 26000) s1 ∧ 0 ≤ p1 ∧ p1 ≤ ((0 + 26000 : Nat) : Int) := hok10
 obtain ⟨hs1, hp0, hp1⟩ := hok10
 obtain ⟨w1, l1, v1⟩ := s1
 change St _ _ [Own.box bs 43 [AV.val (.pointer (some ⟨br, 0, none⟩)), AV.int w1.time, serversAV w1.servers, wordsAV w1.radio, callsAV w1.calls, seenAV w1.seen, AV.val v1], Own.row v1 50 11 (l1.map Ev.cells), Own.box br 66 [bytesAV cd, AV.int (p1)]] _ _ _ at hs
 have hfit := hs1.fit
 have hlen := hs1.len
 replace hfit : ∀ e ∈ l1, e.Near := hfit
 replace hlen : l1.length ≤ 0 + 26000 := hlen
 refine hs.o .nl fun hs => ?_
 refine hs.o .fv fun hs => hs.o (.lb 0) fun hs => hs.s fun hs => nn ?_
 refine St.cut (σ := List Ev × Int) (5 :: (run 76 14 [])) ⟨fun ⟨l2, p2⟩ => [], fun ⟨l2, p2⟩ => [Own.box bs 43 [AV.val (.pointer (some ⟨br, 0, none⟩)), AV.int w1.time, serversAV w1.servers, wordsAV w1.radio, callsAV w1.calls, seenAV w1.seen, AV.val v1], Own.row v1 50 11 (l2.map Ev.cells), Own.box br 66 [bytesAV cd, AV.int (p2)]], fun ⟨l2, p2⟩ => l2.length = l1.length ∧ (∀ e ∈ l2, e.Fit) ∧ 0 ≤ p2 ∧ p2 ≤ p1 + 4⟩ hs ?cutA3 ?cutB3
 case cutA3 =>
  refine sr <| hs.m fun hs => ?_
  refine hs.callM [2] (c_spec_l6Rd_pick br cd (p1) (4) (by omega) hcd) (args_cons .tt (args_cons .c args_nil)) rfl (by decide) rfl fun I a w hs => ?_
  generalize pickI cd p1 4 = x15 at hs
  refine hs.o .eqic fun hs => hs.m fun hs => hs.q .T .mv fun hs => ?_
  refine hs.q .T (ok_lenO 1 un24 .ag rfl) fun hs => ?_
  refine hs.q .T (ok_gtr .ag .c) fun hs => ?_
  refine hs.o .an fun hs => nn ?_
  refine hs.cd (fun hb1 => ?_) fun hb1 => ?_
  ·simp only [B, List.length_map] at hb1
   refine wp_seq ?_
   obtain ⟨bk1, ck1, ek1⟩ := hs.rowBlock 1 rfl (by rw [List.length_map]; omega)
   subst ek1
   refine St.region <| hs.m fun hs => hs.m fun hs => hs.o (ok_lenO 1 un24 .tt rfl) fun hs => ?_
   refine hs.callM [2] (c_spec_l6Rd_pick br cd (p1 + 1) ((List.map Ev.cells l1).length) (by omega) hcd) (args_cons .tt (args_cons .tt args_nil)) rfl (by decide) rfl fun I a w hs => ?_
   have hx := pickI_in cd (p1 + 1) (n := ((List.map Ev.cells l1).length : Int)) (by rw [List.length_map]; omega)
   generalize pickI cd (p1 + 1) ((List.map Ev.cells l1).length : Int) = x25 at hs hx
   rw [List.length_map] at hx
   refine hs.s fun hs => nn <| sr <| hs.m fun hs => ?_
   refine hs.callM [2] (c_spec_l6Rd_pick br cd (p1 + 1 + 1) (6) (by omega) hcd) (args_cons .tt (args_cons .c args_nil)) rfl (by decide) rfl fun I a w hs => ?_
   generalize pickI cd (p1 + 1 + 1) 6 = x27 at hs
   refine nn <| wp_block <| sr <| hs.o .eqic fun hs => hs.s fun hs => nn ?_
   refine hs.cd (fun hb2 => ?_) fun hb2 => ?_
   ·skip
    refine St.region <| hs.m fun hs => hs.m fun hs => ?_
    refine hs.o (.li (([0, 10] : List Int).map intCell) zo3 (.v (.v .nil))) fun hs => ?_
    refine hs.m fun hs => ?_
    refine hs.callM [2] (c_spec_l6Rd_pick br cd (p1 + 1 + 1 + 1) (2) (by omega) hcd) (args_cons .tt (args_cons .c args_nil)) rfl (by decide) rfl fun I a w hs => ?_
    have hy := pickI_in cd (p1 + 1 + 1 + 1) (n := 2) (by omega)
    generalize pickI cd (p1 + 1 + 1 + 1) 2 = x38 at hs hy
    refine hs.o ((by first | exact ok_idxN un54 ty3 .tt .tt (fun _ => by (try simp); omega) | exact ok_idxM un54 ty3 .tt .tt (fun _ => by (try simp); omega) | exact ok_idx un54 ty3 .tt .tt (fun _ => by (try simp); omega))) fun hs => ?_
    refine hs.o .l1 fun hs => ?_
    refine hs.o (ok_idxO un24 ty50 .tt .tt (fun _ => by rw [List.length_map]; omega)) fun hs => ?_
    refine hs.o .fv fun hs => ?_
    refine hs.storeR1 (j := 0) 1 ty3 .tt .tt (by first | exact one_val rfl | exact one_rows | exact one_ptr | exact one_fn | assumption) rfl (by exact map_get (by omega)) rfl rfl fun a w hs => ?_
    refine wpList_nil ?_
    have e9 : ∀ y, y = Ev.cells ({ elt l1 x25.toNat with kind := elt [0, 10] x38.toNat }) → (List.map Ev.cells l1).set x25.toNat y = List.map Ev.cells (l1.set x25.toNat ({ elt l1 x25.toNat with kind := elt [0, 10] x38.toNat })) := fun y hy => by rw [hy, List.map_set]
    rw [e9] at hs
    rotate_left
    ·rfl
    refine block_n <| then_n ?_
    exact hs.me (l1.set x25.toNat ({ elt l1 x25.toNat with kind := elt [0, 10] x38.toNat }), p1 + 1 + 1 + 1 + 1) (by first | exact ⟨by simp, fit_set hfit (fit_kind (hfit (elt l1 x25.toNat) (elt_mem (by omega))) elt2_near), by first | omega | (dsimp only; omega), by first | omega | (dsimp only; omega)⟩ | exact ⟨by simp, fit_set hfit (fit_keep (hfit (elt l1 x25.toNat) (elt_mem (by omega))) (succ64 (hfit (elt l1 x25.toNat) (elt_mem (by omega))).all.2.2.2.2.1)), by first | omega | (dsimp only; omega), by first | omega | (dsimp only; omega)⟩ | exact ⟨by simp, fit_set hfit (fit_at (hfit (elt l1 x25.toNat) (elt_mem (by omega))) elt3b_near), by first | omega | (dsimp only; omega), by first | omega | (dsimp only; omega)⟩ | exact ⟨by simp, fit_set hfit (fit_a (hfit (elt l1 x25.toNat) (elt_mem (by omega))) (succ64 (hfit (elt l1 x25.toNat) (elt_mem (by omega))).all.2.2.2.2.2.2.2.1)), by first | omega | (dsimp only; omega), by first | omega | (dsimp only; omega)⟩ | exact ⟨by simp, fit_set hfit (fit_call (hfit (elt l1 x25.toNat) (elt_mem (by omega))) (succ64 (hfit (elt l1 x25.toNat) (elt_mem (by omega))).all.2.2.2.2.2.2.1)), by first | omega | (dsimp only; omega), by first | omega | (dsimp only; omega)⟩ | exact ⟨by simp, fit_set hfit (fit_word (hfit (elt l1 x25.toNat) (elt_mem (by omega))) (by unfold i64r; omega)), by first | omega | (dsimp only; omega), by first | omega | (dsimp only; omega)⟩ | exact ⟨rfl, fun e he => (hfit e he).fit, by first | omega | (dsimp only; omega), by first | omega | (dsimp only; omega)⟩)
   ·skip
    refine sr <| hs.o .eqic fun hs => hs.s fun hs => nn ?_
    refine hs.cd (fun hb3 => ?_) fun hb3 => ?_
    ·skip
     refine St.region <| hs.m fun hs => hs.m fun hs => hs.m fun hs => hs.m fun hs => ?_
     refine hs.o (ok_idxO un24 ty50 .tt .tt (fun _ => by rw [List.length_map]; omega)) fun hs => ?_
     refine hs.o .fv fun hs => ?_
     refine hs.o (ok_loadO1 (j := 4) 1 ty3 .tt rfl (fun _ => by exact map_get (by omega)) rfl rfl rfl) fun hs => ?_
     refine hs.o (ok_add .tt .c (fun _ => by have hnr := (hfit (elt l1 x25.toNat) (elt_mem (by omega))).all; unfold near at hnr; omega)) fun hs => ?_
     refine hs.o (ok_idxO un24 ty50 .tt .tt (fun _ => by rw [List.length_map]; omega)) fun hs => ?_
     refine hs.o .fv fun hs => ?_
     refine hs.storeR1 (j := 4) 1 ty3 .tt .tt (by first | exact one_val rfl | exact one_rows | exact one_ptr | exact one_fn | assumption) rfl (by exact map_get (by omega)) rfl rfl fun a w hs => ?_
     refine wpList_nil ?_
     have e9 : ∀ y, y = Ev.cells ({ elt l1 x25.toNat with keep := (elt l1 x25.toNat).keep + 1 }) → (List.map Ev.cells l1).set x25.toNat y = List.map Ev.cells (l1.set x25.toNat ({ elt l1 x25.toNat with keep := (elt l1 x25.toNat).keep + 1 })) := fun y hy => by rw [hy, List.map_set]
     rw [e9] at hs
     rotate_left
     ·rfl
     refine block_n <| then_n ?_
     exact hs.me (l1.set x25.toNat ({ elt l1 x25.toNat with keep := (elt l1 x25.toNat).keep + 1 }), p1 + 1 + 1 + 1) (by first | exact ⟨by simp, fit_set hfit (fit_kind (hfit (elt l1 x25.toNat) (elt_mem (by omega))) elt2_near), by first | omega | (dsimp only; omega), by first | omega | (dsimp only; omega)⟩ | exact ⟨by simp, fit_set hfit (fit_keep (hfit (elt l1 x25.toNat) (elt_mem (by omega))) (succ64 (hfit (elt l1 x25.toNat) (elt_mem (by omega))).all.2.2.2.2.1)), by first | omega | (dsimp only; omega), by first | omega | (dsimp only; omega)⟩ | exact ⟨by simp, fit_set hfit (fit_at (hfit (elt l1 x25.toNat) (elt_mem (by omega))) elt3b_near), by first | omega | (dsimp only; omega), by first | omega | (dsimp only; omega)⟩ | exact ⟨by simp, fit_set hfit (fit_a (hfit (elt l1 x25.toNat) (elt_mem (by omega))) (succ64 (hfit (elt l1 x25.toNat) (elt_mem (by omega))).all.2.2.2.2.2.2.2.1)), by first | omega | (dsimp only; omega), by first | omega | (dsimp only; omega)⟩ | exact ⟨by simp, fit_set hfit (fit_call (hfit (elt l1 x25.toNat) (elt_mem (by omega))) (succ64 (hfit (elt l1 x25.toNat) (elt_mem (by omega))).all.2.2.2.2.2.2.1)), by first | omega | (dsimp only; omega), by first | omega | (dsimp only; omega)⟩ | exact ⟨by simp, fit_set hfit (fit_word (hfit (elt l1 x25.toNat) (elt_mem (by omega))) (by unfold i64r; omega)), by first | omega | (dsimp only; omega), by first | omega | (dsimp only; omega)⟩ | exact ⟨rfl, fun e he => (hfit e he).fit, by first | omega | (dsimp only; omega), by first | omega | (dsimp only; omega)⟩)
    ·skip
     refine sr <| hs.o .eqic fun hs => hs.s fun hs => nn ?_
     refine hs.cd (fun hb4 => ?_) fun hb4 => ?_
     ·skip
      refine St.region <| hs.m fun hs => hs.m fun hs => ?_
      refine hs.o (.li (([-1, 99999, 100000] : List Int).map intCell) zo3 (.v (.v (.v .nil)))) fun hs => ?_
      refine hs.m fun hs => ?_
      refine hs.callM [2] (c_spec_l6Rd_pick br cd (p1 + 1 + 1 + 1) (3) (by omega) hcd) (args_cons .tt (args_cons .c args_nil)) rfl (by decide) rfl fun I a w hs => ?_
      have hy := pickI_in cd (p1 + 1 + 1 + 1) (n := 3) (by omega)
      generalize pickI cd (p1 + 1 + 1 + 1) 3 = x61 at hs hy
      refine hs.o ((by first | exact ok_idxN un54 ty3 .tt .tt (fun _ => by (try simp); omega) | exact ok_idxM un54 ty3 .tt .tt (fun _ => by (try simp); omega) | exact ok_idx un54 ty3 .tt .tt (fun _ => by (try simp); omega))) fun hs => ?_
      refine hs.o .l1 fun hs => ?_
      refine hs.o (ok_idxO un24 ty50 .tt .tt (fun _ => by rw [List.length_map]; omega)) fun hs => ?_
      refine hs.o .fv fun hs => ?_
      refine hs.storeR1 (j := 1) 1 ty3 .tt .tt (by first | exact one_val rfl | exact one_rows | exact one_ptr | exact one_fn | assumption) rfl (by exact map_get (by omega)) rfl rfl fun a w hs => ?_
      refine wpList_nil ?_
      have e9 : ∀ y, y = Ev.cells ({ elt l1 x25.toNat with at_ := elt [-1, 99999, 100000] x61.toNat }) → (List.map Ev.cells l1).set x25.toNat y = List.map Ev.cells (l1.set x25.toNat ({ elt l1 x25.toNat with at_ := elt [-1, 99999, 100000] x61.toNat })) := fun y hy => by rw [hy, List.map_set]
      rw [e9] at hs
      rotate_left
      ·rfl
      refine block_n <| then_n ?_
      exact hs.me (l1.set x25.toNat ({ elt l1 x25.toNat with at_ := elt [-1, 99999, 100000] x61.toNat }), p1 + 1 + 1 + 1 + 1) (by first | exact ⟨by simp, fit_set hfit (fit_kind (hfit (elt l1 x25.toNat) (elt_mem (by omega))) elt2_near), by first | omega | (dsimp only; omega), by first | omega | (dsimp only; omega)⟩ | exact ⟨by simp, fit_set hfit (fit_keep (hfit (elt l1 x25.toNat) (elt_mem (by omega))) (succ64 (hfit (elt l1 x25.toNat) (elt_mem (by omega))).all.2.2.2.2.1)), by first | omega | (dsimp only; omega), by first | omega | (dsimp only; omega)⟩ | exact ⟨by simp, fit_set hfit (fit_at (hfit (elt l1 x25.toNat) (elt_mem (by omega))) elt3b_near), by first | omega | (dsimp only; omega), by first | omega | (dsimp only; omega)⟩ | exact ⟨by simp, fit_set hfit (fit_a (hfit (elt l1 x25.toNat) (elt_mem (by omega))) (succ64 (hfit (elt l1 x25.toNat) (elt_mem (by omega))).all.2.2.2.2.2.2.2.1)), by first | omega | (dsimp only; omega), by first | omega | (dsimp only; omega)⟩ | exact ⟨by simp, fit_set hfit (fit_call (hfit (elt l1 x25.toNat) (elt_mem (by omega))) (succ64 (hfit (elt l1 x25.toNat) (elt_mem (by omega))).all.2.2.2.2.2.2.1)), by first | omega | (dsimp only; omega), by first | omega | (dsimp only; omega)⟩ | exact ⟨by simp, fit_set hfit (fit_word (hfit (elt l1 x25.toNat) (elt_mem (by omega))) (by unfold i64r; omega)), by first | omega | (dsimp only; omega), by first | omega | (dsimp only; omega)⟩ | exact ⟨rfl, fun e he => (hfit e he).fit, by first | omega | (dsimp only; omega), by first | omega | (dsimp only; omega)⟩)
     ·skip
      refine sr <| hs.o .eqic fun hs => hs.s fun hs => nn ?_
      refine hs.cd (fun hb5 => ?_) fun hb5 => ?_
      ·skip
       refine St.region <| hs.m fun hs => hs.m fun hs => hs.m fun hs => hs.m fun hs => ?_
       refine hs.o (ok_idxO un24 ty50 .tt .tt (fun _ => by rw [List.length_map]; omega)) fun hs => ?_
       refine hs.o .fv fun hs => ?_
       refine hs.o (ok_loadO1 (j := 7) 1 ty3 .tt rfl (fun _ => by exact map_get (by omega)) rfl rfl rfl) fun hs => ?_
       refine hs.o (ok_add .tt .c (fun _ => by have hnr := (hfit (elt l1 x25.toNat) (elt_mem (by omega))).all; unfold near at hnr; omega)) fun hs => ?_
       refine hs.o (ok_idxO un24 ty50 .tt .tt (fun _ => by rw [List.length_map]; omega)) fun hs => ?_
       refine hs.o .fv fun hs => ?_
       refine hs.storeR1 (j := 7) 1 ty3 .tt .tt (by first | exact one_val rfl | exact one_rows | exact one_ptr | exact one_fn | assumption) rfl (by exact map_get (by omega)) rfl rfl fun a w hs => ?_
       refine wpList_nil ?_
       have e9 : ∀ y, y = Ev.cells ({ elt l1 x25.toNat with a := (elt l1 x25.toNat).a + 1 }) → (List.map Ev.cells l1).set x25.toNat y = List.map Ev.cells (l1.set x25.toNat ({ elt l1 x25.toNat with a := (elt l1 x25.toNat).a + 1 })) := fun y hy => by rw [hy, List.map_set]
       rw [e9] at hs
       rotate_left
       ·rfl
       refine block_n <| then_n ?_
       exact hs.me (l1.set x25.toNat ({ elt l1 x25.toNat with a := (elt l1 x25.toNat).a + 1 }), p1 + 1 + 1 + 1) (by first | exact ⟨by simp, fit_set hfit (fit_kind (hfit (elt l1 x25.toNat) (elt_mem (by omega))) elt2_near), by first | omega | (dsimp only; omega), by first | omega | (dsimp only; omega)⟩ | exact ⟨by simp, fit_set hfit (fit_keep (hfit (elt l1 x25.toNat) (elt_mem (by omega))) (succ64 (hfit (elt l1 x25.toNat) (elt_mem (by omega))).all.2.2.2.2.1)), by first | omega | (dsimp only; omega), by first | omega | (dsimp only; omega)⟩ | exact ⟨by simp, fit_set hfit (fit_at (hfit (elt l1 x25.toNat) (elt_mem (by omega))) elt3b_near), by first | omega | (dsimp only; omega), by first | omega | (dsimp only; omega)⟩ | exact ⟨by simp, fit_set hfit (fit_a (hfit (elt l1 x25.toNat) (elt_mem (by omega))) (succ64 (hfit (elt l1 x25.toNat) (elt_mem (by omega))).all.2.2.2.2.2.2.2.1)), by first | omega | (dsimp only; omega), by first | omega | (dsimp only; omega)⟩ | exact ⟨by simp, fit_set hfit (fit_call (hfit (elt l1 x25.toNat) (elt_mem (by omega))) (succ64 (hfit (elt l1 x25.toNat) (elt_mem (by omega))).all.2.2.2.2.2.2.1)), by first | omega | (dsimp only; omega), by first | omega | (dsimp only; omega)⟩ | exact ⟨by simp, fit_set hfit (fit_word (hfit (elt l1 x25.toNat) (elt_mem (by omega))) (by unfold i64r; omega)), by first | omega | (dsimp only; omega), by first | omega | (dsimp only; omega)⟩ | exact ⟨rfl, fun e he => (hfit e he).fit, by first | omega | (dsimp only; omega), by first | omega | (dsimp only; omega)⟩)
      ·skip
       refine sr <| hs.o .eqic fun hs => hs.s fun hs => nn ?_
       refine hs.cd (fun hb6 => ?_) fun hb6 => ?_
       ·skip
        refine St.region <| hs.m fun hs => hs.m fun hs => hs.m fun hs => hs.m fun hs => ?_
        refine hs.o (ok_idxO un24 ty50 .tt .tt (fun _ => by rw [List.length_map]; omega)) fun hs => ?_
        refine hs.o .fv fun hs => ?_
        refine hs.o (ok_loadO1 (j := 6) 1 ty3 .tt rfl (fun _ => by exact map_get (by omega)) rfl rfl rfl) fun hs => ?_
        refine hs.o (ok_add .tt .c (fun _ => by have hnr := (hfit (elt l1 x25.toNat) (elt_mem (by omega))).all; unfold near at hnr; omega)) fun hs => ?_
        refine hs.o (ok_idxO un24 ty50 .tt .tt (fun _ => by rw [List.length_map]; omega)) fun hs => ?_
        refine hs.o .fv fun hs => ?_
        refine hs.storeR1 (j := 6) 1 ty3 .tt .tt (by first | exact one_val rfl | exact one_rows | exact one_ptr | exact one_fn | assumption) rfl (by exact map_get (by omega)) rfl rfl fun a w hs => ?_
        refine wpList_nil ?_
        have e9 : ∀ y, y = Ev.cells ({ elt l1 x25.toNat with call := (elt l1 x25.toNat).call + 1 }) → (List.map Ev.cells l1).set x25.toNat y = List.map Ev.cells (l1.set x25.toNat ({ elt l1 x25.toNat with call := (elt l1 x25.toNat).call + 1 })) := fun y hy => by rw [hy, List.map_set]
        rw [e9] at hs
        rotate_left
        ·rfl
        refine block_n <| then_n ?_
        exact hs.me (l1.set x25.toNat ({ elt l1 x25.toNat with call := (elt l1 x25.toNat).call + 1 }), p1 + 1 + 1 + 1) (by first | exact ⟨by simp, fit_set hfit (fit_kind (hfit (elt l1 x25.toNat) (elt_mem (by omega))) elt2_near), by first | omega | (dsimp only; omega), by first | omega | (dsimp only; omega)⟩ | exact ⟨by simp, fit_set hfit (fit_keep (hfit (elt l1 x25.toNat) (elt_mem (by omega))) (succ64 (hfit (elt l1 x25.toNat) (elt_mem (by omega))).all.2.2.2.2.1)), by first | omega | (dsimp only; omega), by first | omega | (dsimp only; omega)⟩ | exact ⟨by simp, fit_set hfit (fit_at (hfit (elt l1 x25.toNat) (elt_mem (by omega))) elt3b_near), by first | omega | (dsimp only; omega), by first | omega | (dsimp only; omega)⟩ | exact ⟨by simp, fit_set hfit (fit_a (hfit (elt l1 x25.toNat) (elt_mem (by omega))) (succ64 (hfit (elt l1 x25.toNat) (elt_mem (by omega))).all.2.2.2.2.2.2.2.1)), by first | omega | (dsimp only; omega), by first | omega | (dsimp only; omega)⟩ | exact ⟨by simp, fit_set hfit (fit_call (hfit (elt l1 x25.toNat) (elt_mem (by omega))) (succ64 (hfit (elt l1 x25.toNat) (elt_mem (by omega))).all.2.2.2.2.2.2.1)), by first | omega | (dsimp only; omega), by first | omega | (dsimp only; omega)⟩ | exact ⟨by simp, fit_set hfit (fit_word (hfit (elt l1 x25.toNat) (elt_mem (by omega))) (by unfold i64r; omega)), by first | omega | (dsimp only; omega), by first | omega | (dsimp only; omega)⟩ | exact ⟨rfl, fun e he => (hfit e he).fit, by first | omega | (dsimp only; omega), by first | omega | (dsimp only; omega)⟩)
       ·skip
        refine St.region <| hs.m fun hs => hs.m fun hs => ?_
        refine hs.o (ok_idxO un24 ty50 .tt .tt (fun _ => by rw [List.length_map]; omega)) fun hs => ?_
        refine hs.o .fv fun hs => ?_
        refine hs.storeR1 (j := 3) 1 ty3 .tt .c (by first | exact one_val rfl | exact one_rows | exact one_ptr | exact one_fn | assumption) rfl (by exact map_get (by omega)) rfl rfl fun a w hs => ?_
        refine wpList_nil ?_
        have e9 : ∀ y, y = Ev.cells ({ elt l1 x25.toNat with word := -1 }) → (List.map Ev.cells l1).set x25.toNat y = List.map Ev.cells (l1.set x25.toNat ({ elt l1 x25.toNat with word := -1 })) := fun y hy => by rw [hy, List.map_set]
        rw [e9] at hs
        rotate_left
        ·rfl
        refine block_n <| then_n ?_
        exact hs.me (l1.set x25.toNat ({ elt l1 x25.toNat with word := -1 }), p1 + 1 + 1 + 1) (by first | exact ⟨by simp, fit_set hfit (fit_kind (hfit (elt l1 x25.toNat) (elt_mem (by omega))) elt2_near), by first | omega | (dsimp only; omega), by first | omega | (dsimp only; omega)⟩ | exact ⟨by simp, fit_set hfit (fit_keep (hfit (elt l1 x25.toNat) (elt_mem (by omega))) (succ64 (hfit (elt l1 x25.toNat) (elt_mem (by omega))).all.2.2.2.2.1)), by first | omega | (dsimp only; omega), by first | omega | (dsimp only; omega)⟩ | exact ⟨by simp, fit_set hfit (fit_at (hfit (elt l1 x25.toNat) (elt_mem (by omega))) elt3b_near), by first | omega | (dsimp only; omega), by first | omega | (dsimp only; omega)⟩ | exact ⟨by simp, fit_set hfit (fit_a (hfit (elt l1 x25.toNat) (elt_mem (by omega))) (succ64 (hfit (elt l1 x25.toNat) (elt_mem (by omega))).all.2.2.2.2.2.2.2.1)), by first | omega | (dsimp only; omega), by first | omega | (dsimp only; omega)⟩ | exact ⟨by simp, fit_set hfit (fit_call (hfit (elt l1 x25.toNat) (elt_mem (by omega))) (succ64 (hfit (elt l1 x25.toNat) (elt_mem (by omega))).all.2.2.2.2.2.2.1)), by first | omega | (dsimp only; omega), by first | omega | (dsimp only; omega)⟩ | exact ⟨by simp, fit_set hfit (fit_word (hfit (elt l1 x25.toNat) (elt_mem (by omega))) (by unfold i64r; omega)), by first | omega | (dsimp only; omega), by first | omega | (dsimp only; omega)⟩ | exact ⟨rfl, fun e he => (hfit e he).fit, by first | omega | (dsimp only; omega), by first | omega | (dsimp only; omega)⟩)
  ·skip
   refine wp_skip <| then_n ?_
   exact hs.me (l1, p1 + 1) (by first | exact ⟨by simp, fit_set hfit (fit_kind (hfit (elt l1 x25.toNat) (elt_mem (by omega))) elt2_near), by first | omega | (dsimp only; omega), by first | omega | (dsimp only; omega)⟩ | exact ⟨by simp, fit_set hfit (fit_keep (hfit (elt l1 x25.toNat) (elt_mem (by omega))) (succ64 (hfit (elt l1 x25.toNat) (elt_mem (by omega))).all.2.2.2.2.1)), by first | omega | (dsimp only; omega), by first | omega | (dsimp only; omega)⟩ | exact ⟨by simp, fit_set hfit (fit_at (hfit (elt l1 x25.toNat) (elt_mem (by omega))) elt3b_near), by first | omega | (dsimp only; omega), by first | omega | (dsimp only; omega)⟩ | exact ⟨by simp, fit_set hfit (fit_a (hfit (elt l1 x25.toNat) (elt_mem (by omega))) (succ64 (hfit (elt l1 x25.toNat) (elt_mem (by omega))).all.2.2.2.2.2.2.2.1)), by first | omega | (dsimp only; omega), by first | omega | (dsimp only; omega)⟩ | exact ⟨by simp, fit_set hfit (fit_call (hfit (elt l1 x25.toNat) (elt_mem (by omega))) (succ64 (hfit (elt l1 x25.toNat) (elt_mem (by omega))).all.2.2.2.2.2.2.1)), by first | omega | (dsimp only; omega), by first | omega | (dsimp only; omega)⟩ | exact ⟨by simp, fit_set hfit (fit_word (hfit (elt l1 x25.toNat) (elt_mem (by omega))) (by unfold i64r; omega)), by first | omega | (dsimp only; omega), by first | omega | (dsimp only; omega)⟩ | exact ⟨rfl, fun e he => (hfit e he).fit, by first | omega | (dsimp only; omega), by first | omega | (dsimp only; omega)⟩)
 case cutB3 =>
  rintro ⟨l2, p2⟩ I a w hok hs
  obtain ⟨hl2, hf2, hp2, hp3⟩ := hok
  change St _ _ [Own.box bs 43 [AV.val (.pointer (some ⟨br, 0, none⟩)), AV.int w1.time, serversAV w1.servers, wordsAV w1.radio, callsAV w1.calls, seenAV w1.seen, AV.val v1], Own.row v1 50 11 (l2.map Ev.cells), Own.box br 66 [bytesAV cd, AV.int (p2)]] _ _ _ at hs
  refine wp_seq <| sr <| hs.m fun hs => ?_
  refine hs.callM [2] (c_spec_l6Rd_pick br cd (p2) (30) (by omega) hcd) (args_cons .tt (args_cons .c args_nil)) rfl (by decide) rfl fun I a w hs => ?_
  generalize pickI cd p2 30 = x91 at hs
  refine hs.o .eqic fun hs => nn ?_
  refine hs.cd (fun hb7 => ?_) fun hb7 => ?_
  ·try simp only [B] at hb7
   refine sr ?_
   refine hs.lit0 rfl un24 ty50 (by decide) fun b93 I a w hs => ?_
   refine hs.s fun hs => nn <| sr <| hs.sc fun hs => nn <| wp_block ?_
   refine St.lo (σ := Nat × Value × Int) (4 :: (6 :: (run 11 94 []))) ⟨fun ⟨i, v, p3⟩ => [(6, AV.int i), (4, AV.val v)], fun ⟨i, v, p3⟩ => [Own.box bs 43 [AV.val (.pointer (some ⟨br, 0, none⟩)), AV.int w1.time, serversAV w1.servers, wordsAV w1.radio, callsAV w1.calls, seenAV w1.seen, AV.val v1], Own.row v1 50 11 (l2.map Ev.cells), Own.box br 66 [bytesAV cd, AV.int (p3)], Own.row v 50 11 ((List.replicate i riseE).map Ev.cells)], fun ⟨i, v, p3⟩ => i ≤ 7501 ∧ 0 ≤ p3 ∧ p3 ≤ p1 + 6 + i⟩ (fun ⟨i, v, p3⟩ => 7501 - i) (0, .slice (some ⟨b93, 0, none⟩) 0 0, p2 + 1) hs ?ok1 ?round1
   case ok1 => exact ⟨by omega, by first | omega | (dsimp only; omega), by first | omega | (dsimp only; omega)⟩
   case round1 =>
    rintro ⟨i, v, p3⟩ I a w hok hs
    obtain ⟨hi, hp4, hp5⟩ := hok
    change St _ _ [Own.box bs 43 [AV.val (.pointer (some ⟨br, 0, none⟩)), AV.int w1.time, serversAV w1.servers, wordsAV w1.radio, callsAV w1.calls, seenAV w1.seen, AV.val v1], Own.row v1 50 11 (l2.map Ev.cells), Own.box br 66 [bytesAV cd, AV.int (p3)], Own.row v 50 11 ((List.replicate i riseE).map Ev.cells)] _ _ _ at hs
    refine wp_seq <| sr <| hs.m fun hs => hs.m fun hs => ?_
    refine hs.callM [2] (c_spec_l6Rd_pick br cd (p3) (2) (by omega) hcd) (args_cons .tt (args_cons .c args_nil)) rfl (by decide) rfl fun I a w hs => ?_
    have hz := pickI_in cd p3 (n := 2) (by omega)
    generalize pickI cd p3 2 = x96 at hs hz
    refine hs.o .ad fun hs => ?_
    refine hs.o .lss fun hs => nn ?_
    refine hs.cd (fun hb8 => ?_) fun hb8 => ?_
    ·try simp only [B] at hb8
     refine wp_skip <| then_n <| wp_seq <| wp_block <| St.region <| hs.m fun hs => ?_
     refine hs.o (.bd zc50 (.k Parts.nil)) fun hs => ?_
     refine hs.o (.li [riseE.cells] zo50 (.u .nil)) fun hs => ?_
     refine hs.append 3 rfl un24 ty50 rfl .tt .r rfl (by simp; omega) fun v104 a w hs => ?_
     rw [show List.map Ev.cells (List.replicate i riseE) ++ [riseE.cells] = List.map Ev.cells (List.replicate (i + 1) riseE) by rw [List.replicate_succ', List.map_append]; rfl] at hs
     refine hs.s fun hs => wpList_nil <| block_n <| then_n <| St.region <| hs.m fun hs => ?_
     refine hs.o .ad fun hs => ?_
     refine hs.s fun hs => nn ?_
     exact hs.ag (i + 1, v104, p3 + 1) (⟨by show i + 1 ≤ 7501; omega, by show 0 ≤ p3 + 1; omega, by show p3 + 1 ≤ p1 + 6 + ((i + 1 : Nat) : Int); omega⟩) (hμ := by show 7501 - (i + 1) < 7501 - i; omega)
    ·try simp only [B] at hb8
     refine wp_exit <| then_x <| then_x <| block_hit <| then_n <| sr <| hs.m fun hs => hs.s fun hs => nn <| wp_ret ?_
     refine hs.retE (List.replicate i riseE, v) [3] rfl (.cons (.t rfl) .nil) (by (try dsimp only); exact ⟨by simp; omega, fun e he => by rw [(List.mem_replicate.1 he).2]; exact riseE_fit⟩) rfl rfl
  ·try simp only [B] at hb7
   refine wp_skip <| then_n <| sr <| hs.m fun hs => hs.s fun hs => nn <| wp_ret ?_
   refine hs.retE (l2, v1) [1] rfl (.cons (.t rfl) .nil) (by (try dsimp only); exact ⟨by omega, hf2⟩) rfl rfl
theorem c_laws_FnNeckText (code : List UInt8) :
    Fn Tryz.prog 4 [AV.tab4 (bytesAV code)] (AV.bool true) := by
 refine Fn.intro 46 Tryz.func4 rfl Tryz.ntmps4 rfl (by kernel_rfl) (fun W I a hs => ?_)
 refine sr <| hs.sc fun hs => nn <| wp_seq <| sr <| hs.o (ok_move (.untab4 rfl)) fun hs => ?_
 refine hs.o .ln fun hs => ?_
 refine hs.o .gtrc fun hs => nn ?_
 refine hs.cd (fun hb1 => ?_) fun hb1 => ?_
 ·try simp only [B] at hb1
  refine sr <| hs.sc fun hs => nn <| wp_ret <| then_r ?_
  refine hs.rt ?_
  rfl
 ·try simp only [B] at hb1
  refine wp_skip <| then_n <| sr <| hs.o (ok_move (.untab4 rfl)) fun hs => ?_
  refine hs.callE [] (c_spec_DrawNeckWrite code (by omega)) (args_cons .r args_nil) rfl (by decide) rfl fun r12 I a w hok12 hs => ?_
  obtain ⟨l, v12⟩ := r12
  replace hok12 : l.length ≤ 30000 ∧ ∀ e ∈ l, e.Fit := hok12
  obtain ⟨hl, hfit⟩ := hok12
  have hwl := neckW_len l
  change St _ _ [Own.row v12 50 11 (l.map Ev.cells)] _ _ _ at hs
  obtain ⟨I, hs, hf⟩ := hs.freezeRow 0 rfl
  have hs := hs.upd (t := 12) rfl hf; clear hf
  refine hs.s fun hs => nn <| sr <| hs.m fun hs => ?_
  refine hs.o (ok_call (c_spec_NeckWrite l (by omega) hfit) (args_cons .r args_nil)) fun hs => ?_
  refine hs.s fun hs => nn <| sr <| hs.m fun hs => hs.o (ok_call (c_impl_NeckWrite l hfit) (args_cons (.tab41 (t := 0) rfl .tt) args_nil)) fun hs => hs.s fun hs => nn <| wp_seq <| sr <| hs.m fun hs => hs.m fun hs => hs.o (ok_neT .tt .tt) fun hs => nn ?_
  refine hs.cd (fun hb2 => ?_) fun hb2 => ?_
  ·exfalso; simp at hb2
   skip
  ·skip
   refine wp_skip <| then_n <| sr <| hs.m fun hs => ?_
   refine hs.callE [] (c_impl_NeckRead (neckW [] l) (by omega)) (args_cons (.tab4 (t := 0) rfl .tt) args_nil) rfl (by decide) rfl fun v22 I a w hok22 hs => ?_
   clear hok22
   refine hs.m fun hs => ?_
   refine hs.o .e fun hs => hs.o .e fun hs => hs.s fun hs => hs.s fun hs => wpList_nil ?_
   obtain ⟨I, hs, hf⟩ := hs.freezeRow 1 rfl
   have hs := hs.upd (t := 6) rfl hf; clear hf
   refine then_n <| wp_seq <| sr <| hs.m fun hs => hs.o (ok_eqT .tt .c) fun hs => nn ?_
   refine hs.cd (fun hb3 => ?_) fun hb3 => ?_
   ·skip
    refine sr <| hs.m fun hs => hs.o .eqic fun hs => hs.m fun hs => hs.q .T .mv fun hs => ?_
    refine hs.q .T .ln fun hs => ?_
    refine hs.q .T (ok_eqi .ag .c) fun hs => ?_
    refine hs.o .an fun hs => hs.s fun hs => nn <| wp_ret <| then_r ?_
    refine hs.rt ?_
    exact ret_bool (by rw [show neckW [] l = [] by simpa using hb3, readAll_nil]; rfl)
   ·skip
    refine wp_skip <| then_n <| sr <| hs.m fun hs => hs.o .eqic fun hs => hs.m fun hs => hs.q .T .mv fun hs => hs.q .T .mv fun hs => ?_
    refine hs.q .T (ok_call (c_laws_liHappens (readAll (neckW [] l)).1 l (by have := readAll_len (s := neckW [] l) (by omega); omega)) (args_cons .ag (args_cons .ag args_nil))) fun hs => ?_
    refine hs.o .an fun hs => hs.m fun hs => hs.q .T .mv fun hs => ?_
    refine hs.q .T (ok_lenT un9 .ag) fun hs => ?_
    refine hs.q .T (ok_leq .ag .c) fun hs => ?_
    refine hs.o .an fun hs => hs.s fun hs => nn <| wp_ret ?_
    refine hs.rt ?_
    exact ret_bool (by obtain ⟨e, h6⟩ := read_written l (by simpa using hb3); rw [e]; simp; omega)
end Go.Proofs.YtkoebplikhlapaaGreatDoor
