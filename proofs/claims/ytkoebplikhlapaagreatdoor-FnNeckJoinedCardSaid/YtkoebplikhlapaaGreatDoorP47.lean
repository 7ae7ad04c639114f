/- Part 47: rules of the proofs, contracts of functions, plain facts. -/
import Derived.Test.YtkoebplikhlapaaGreatDoorP44
set_option linter.unusedVariables false
set_option linter.unusedSimpArgs false
set_option maxRecDepth 100000
namespace Go.Proofs.YtkoebplikhlapaaGreatDoor
open Go Go.RowKit
def sumL (l : List (List UInt8)) : Nat := (l.map fun w => w.length + 1).sum
theorem sumL_set : ∀ (l : List (List UInt8)) (i : Nat) (w : List UInt8), sumL (l.set i w) ≤ sumL l + w.length
  | [], i, w => by simp [sumL]
  | x :: l, 0, w => by simp [sumL]; omega
  | x :: l, i + 1, w => by
    have := sumL_set l i w
    simp [sumL] at this ⊢; omega
theorem sumL_take : ∀ (l : List (List UInt8)) (i : Nat), i < l.length → sumL (l.take (i + 1)) = sumL (l.take i) + (elt l i).length + 1
  | [], i, h => by simp at h
  | x :: l, 0, h => by simp [sumL, elt]
  | x :: l, i + 1, h => by
    have := sumL_take l i (by simpa using h)
    simp only [List.take_succ_cons, sumL, List.map_cons, List.sum_cons] at this ⊢
    rw [show elt (x :: l) (i + 1) = elt l i from by simp [elt]]
    omega
theorem sumL_le : ∀ (l : List (List UInt8)) (i : Nat), sumL (l.take i) ≤ sumL l
  | [], i => by simp
  | x :: l, 0 => by simp [sumL]
  | x :: l, i + 1 => by
    have := sumL_le l i
    simp only [List.take_succ_cons, sumL, List.map_cons, List.sum_cons] at this ⊢; omega
theorem sumL_elt {l : List (List UInt8)} {i : Nat} (h : i < l.length) : (elt l i).length + 1 ≤ sumL l := by
  have h1 := sumL_take l i h
  have h2 := sumL_le l (i + 1)
  omega
theorem sumL_split (s : List UInt8) : sumL (splitB 10 s) = s.length + 1 := split_sum 10 s
def bentL : List (List UInt8) := [[], [102, 97, 108, 108, 115, 32, 49], [102, 97, 108, 108, 115, 32, 49, 32, 48], [102, 97, 108, 108, 115, 32, 48, 49], [114, 105, 115, 101, 115, 32, 49, 32], [114, 105, 115, 101, 115, 32, 45, 49], [100, 111, 117, 98, 108, 101, 115, 32, 48], [112, 117, 116, 115, 32, 48, 32, 49, 32, 57], [112, 117, 116, 115, 32, 48, 32, 49], [114, 101, 97, 100, 115, 32, 48, 32, 49, 32, 50, 32, 51], [114, 101, 97, 100, 115, 32, 48, 32, 49, 32, 50], [109, 111, 118, 101, 115, 32, 49], [109, 111, 118, 101, 115, 32, 49, 32, 50], [98, 114, 105, 110, 103, 115, 32, 49, 48, 48, 48, 48, 48], [98, 114, 105, 110, 103, 115, 32, 57, 57, 57, 57, 57], [119, 104, 97, 116, 32, 49], [115, 101, 110, 100, 115, 32, 49], [115, 101, 110, 100, 115, 32, 49, 32, 50]]
def bentE : List (List UInt8) := [[32], [49], [10], [32, 48]]
theorem bentL_len : ∀ i, (elt bentL i).length ≤ 13 := fun i => by
  by_cases h : i < 18
  · have : ∀ i : Fin 18, (elt bentL i.val).length ≤ 13 := by decide
    exact this ⟨i, h⟩
  · have : elt bentL i = [] := by unfold elt; rw [List.getD_eq_getElem?_getD, List.getElem?_eq_none (by simp [bentL]; omega)]; rfl
    rw [this]; simp
theorem bentE_len : ∀ i, (elt bentE i).length ≤ 13 := fun i => by
  by_cases h : i < 4
  · have : ∀ i : Fin 4, (elt bentE i.val).length ≤ 13 := by decide
    exact this ⟨i, h⟩
  · have : elt bentE i = [] := by unfold elt; rw [List.getD_eq_getElem?_getD, List.getElem?_eq_none (by simp [bentE]; omega)]; rfl
    rw [this]; simp
theorem bent_step {s : List UInt8} {l : List (List UInt8)} {i : Nat} {w : List UInt8} (h : sumL l = s.length + 1) (hw : w.length ≤ s.length + 13) : sumL (l.set i w) ≤ 2 * s.length + 30 := by
  have := sumL_set l i w; omega
set_option maxHeartbeats 8000000 in
theorem c_spec_l73Lines (br : Nat) (code : List UInt8) (hcl : code.length ≤ 1099511627776) (s : List UInt8) (p : Int) (hp : 0 ≤ p ∧ p ≤ 1099511627000) (hsl : s.length ≤ 100000) :
    FnE Tryz.prog 17 [AV.val (.pointer (some ⟨br, 0, none⟩)), AV.text s] [Own.box br 66 [bytesAV code, AV.int (p)]] (fun r : List UInt8 × Int => r.1.length ≤ 2 * s.length + 30 ∧ 0 ≤ r.2 ∧ r.2 ≤ p + 4) (fun r => [Own.box br 66 [bytesAV code, AV.int (r.2)]]) (fun r => AV.text r.1) := by
 refine FnE.intro 81 Tryz.func17 rfl Tryz.ntmps17 rfl (by kernel_rfl) (fun W I a hs => ?_)
 have hpos : 0 < (splitB 10 s).length := List.length_pos_iff.2 (splitB_ne 10 s)
 have hsum := sumL_split s
 have hln := splitB_len 10 s
 refine sr <| hs.sc fun hs => nn <| sr <| hs.m fun hs => ?_
 refine hs.callO (c_spec_l45SplitO s 10 (by omega)) (args_cons .tt (args_cons .c args_nil)) rfl fun I v10 a w hs => ?_
 obtain ⟨bk1, ck1, ek1⟩ := hs.rowBlock 1 rfl (by rw [List.length_map]; omega)
 subst ek1
 refine hs.s fun hs => nn <| sr <| hs.m fun hs => hs.m fun hs => hs.o (ok_lenO 1 un47 .tt rfl) fun hs => ?_
 refine hs.callM [0] (c_spec_l6Rd_pick br code p ((List.map textCell (splitB 10 s)).length : Int) (by omega) hcl) (args_cons .tt (args_cons .tt args_nil)) rfl (by decide) rfl fun I a w hs => ?_
 have hx := pickI_in code p (n := ((List.map textCell (splitB 10 s)).length : Int)) (by rw [List.length_map]; omega)
 generalize pickI code p ((List.map textCell (splitB 10 s)).length : Int) = x14 at hs hx
 rw [List.length_map] at hx
 refine hs.s fun hs => nn ?_
 refine St.cut (σ := List (List UInt8) × Int) (run 49 15 []) ⟨fun ⟨ls, p2⟩ => [], fun ⟨ls, p2⟩ => [Own.box br 66 [bytesAV code, AV.int (p2)], Own.row (.slice (some ⟨bk1, 0, none⟩) (List.map textCell (splitB 10 s)).length ck1) 9 1 (List.map textCell ls)], fun ⟨ls, p2⟩ => ls.length = (splitB 10 s).length ∧ sumL ls ≤ 2 * s.length + 30 ∧ 0 ≤ p2 ∧ p2 ≤ p + 4⟩ hs ?cutA3 ?cutB3
 case cutA3 =>
  refine sr <| hs.m fun hs => ?_
  refine hs.callM [0] (c_spec_l6Rd_pick br code (p + 1) 4 (by omega) hcl) (args_cons .tt (args_cons .c args_nil)) rfl (by decide) rfl fun I a w hs => ?_
  generalize pickI code (p + 1) 4 = x16 at hs
  refine nn <| wp_block <| sr <| hs.o .eqic fun hs => hs.s fun hs => nn ?_
  refine hs.cd (fun hb1 => ?_) fun hb1 => ?_
  ·skip
   refine St.region <| hs.m fun hs => hs.m fun hs => hs.m fun hs => ?_
   refine hs.o (ok_lit (lxs := (bentL.map textCell)) un47 ty9 rfl zo9 rfl rfl (Parts.c rfl rfl .c (by first | exact one_val rfl | exact one_rows | exact one_ptr | exact one_fn | assumption) (Parts.c rfl rfl .c (by first | exact one_val rfl | exact one_rows | exact one_ptr | exact one_fn | assumption) (Parts.c rfl rfl .c (by first | exact one_val rfl | exact one_rows | exact one_ptr | exact one_fn | assumption) (Parts.c rfl rfl .c (by first | exact one_val rfl | exact one_rows | exact one_ptr | exact one_fn | assumption) (Parts.c rfl rfl .c (by first | exact one_val rfl | exact one_rows | exact one_ptr | exact one_fn | assumption) (Parts.c rfl rfl .c (by first | exact one_val rfl | exact one_rows | exact one_ptr | exact one_fn | assumption) (Parts.c rfl rfl .c (by first | exact one_val rfl | exact one_rows | exact one_ptr | exact one_fn | assumption) (Parts.c rfl rfl .c (by first | exact one_val rfl | exact one_rows | exact one_ptr | exact one_fn | assumption) (Parts.c rfl rfl .c (by first | exact one_val rfl | exact one_rows | exact one_ptr | exact one_fn | assumption) (Parts.c rfl rfl .c (by first | exact one_val rfl | exact one_rows | exact one_ptr | exact one_fn | assumption) (Parts.c rfl rfl .c (by first | exact one_val rfl | exact one_rows | exact one_ptr | exact one_fn | assumption) (Parts.c rfl rfl .c (by first | exact one_val rfl | exact one_rows | exact one_ptr | exact one_fn | assumption) (Parts.c rfl rfl .c (by first | exact one_val rfl | exact one_rows | exact one_ptr | exact one_fn | assumption) (Parts.c rfl rfl .c (by first | exact one_val rfl | exact one_rows | exact one_ptr | exact one_fn | assumption) (Parts.c rfl rfl .c (by first | exact one_val rfl | exact one_rows | exact one_ptr | exact one_fn | assumption) (Parts.c rfl rfl .c (by first | exact one_val rfl | exact one_rows | exact one_ptr | exact one_fn | assumption) (Parts.c rfl rfl .c (by first | exact one_val rfl | exact one_rows | exact one_ptr | exact one_fn | assumption) (Parts.c rfl rfl .c (by first | exact one_val rfl | exact one_rows | exact one_ptr | exact one_fn | assumption) Parts.nil)))))))))))))))))) rfl rfl (by intro r hr; obtain ⟨x, _, rfl⟩ := List.mem_map.1 hr; rfl)) fun hs => ?_
   refine hs.callM [0] (c_spec_l6Rd_of br code (p + 1 + 1) bentL (by omega) hcl (by decide)) (args_cons .tt (args_cons .r args_nil)) rfl (by decide) rfl fun I a w hs => ?_
   have hw := bentL_len (pickI code (p + 1 + 1) bentL.length).toNat
   generalize elt bentL (pickI code (p + 1 + 1) bentL.length).toNat = ww at hs hw
   refine hs.o (ok_idxO un47 ty9 .tt .tt (fun _ => by rw [List.length_map]; omega)) fun hs => ?_
   refine hs.storeR1 (j := 0) 1 ty9 .tt .tt (by first | exact one_val rfl | exact one_rows | exact one_ptr | exact one_fn | assumption) rfl (by exact map_get (by omega)) rfl rfl fun a w hs => ?_
   refine wpList_nil ?_
   have e9 : ∀ y, y = textCell (ww) → (List.map textCell (splitB 10 s)).set x14.toNat y = List.map textCell ((splitB 10 s).set x14.toNat (ww)) := fun y hy => by rw [hy, List.map_set]
   rw [e9] at hs
   rotate_left
   ·rfl
   refine block_n <| then_n ?_
   exact hs.me ((splitB 10 s).set x14.toNat ww, p + 1 + 1 + 1) (by first | exact ⟨by simp, bent_step hsum (by omega), by first | omega | (dsimp only; omega) | (dsimp only; push_cast; omega) | (push_cast; omega) | simp, by first | omega | (dsimp only; omega) | (dsimp only; push_cast; omega) | (push_cast; omega) | simp⟩ | exact ⟨by simp, bent_step hsum (by have := sumL_elt (l := (splitB 10 s)) (i := x14.toNat) (by omega); rw [List.length_append]; omega), by first | omega | (dsimp only; omega) | (dsimp only; push_cast; omega) | (push_cast; omega) | simp, by first | omega | (dsimp only; omega) | (dsimp only; push_cast; omega) | (push_cast; omega) | simp⟩ | exact ⟨by simp, bent_step hsum (by have := sumL_elt (l := (splitB 10 s)) (i := x60.toNat) (by omega); omega), by first | omega | (dsimp only; omega) | (dsimp only; push_cast; omega) | (push_cast; omega) | simp, by first | omega | (dsimp only; omega) | (dsimp only; push_cast; omega) | (push_cast; omega) | simp⟩ | exact ⟨by simp, bent_step hsum (by have := sumL_elt (l := (splitB 10 s)) (i := x14.toNat) (by omega); rw [List.length_drop]; omega), by first | omega | (dsimp only; omega) | (dsimp only; push_cast; omega) | (push_cast; omega) | simp, by first | omega | (dsimp only; omega) | (dsimp only; push_cast; omega) | (push_cast; omega) | simp⟩ | exact ⟨rfl, by omega, by first | omega | (dsimp only; omega) | (dsimp only; push_cast; omega) | (push_cast; omega) | simp, by first | omega | (dsimp only; omega) | (dsimp only; push_cast; omega) | (push_cast; omega) | simp⟩)
  ·skip
   refine sr <| hs.o .eqic fun hs => hs.s fun hs => nn ?_
   refine hs.cd (fun hb2 => ?_) fun hb2 => ?_
   ·skip
    refine hs.drawD [([], none), ([], none), ([], none), ([], none), ([1], none), ([1], none), ([], none), ([], none), ([0], some (0, [])), ([], none), ([1], none), ([1], some (1, []))] (by kernel_rfl) (by kernel_rfl) rfl ?_
    refine .o .mv <| .o .mv <| .o .mv <| .o .mv ?_
    refine .r [1] (ok_idxO un47 ty9 .tt .tt (fun _ => by rw [List.length_map]; omega)) ?_
    refine .r [1] (ok_loadO1 (j := 0) 1 ty9 .tt rfl (fun _ => by exact map_get (by omega)) rfl rfl rfl) ?_
    refine .o .mv ?_
    refine .o (ok_lit (lxs := (bentE.map textCell)) un47 ty9 rfl zo9 rfl rfl (Parts.c rfl rfl .c (by first | exact one_val rfl | exact one_rows | exact one_ptr | exact one_fn | assumption) (Parts.c rfl rfl .c (by first | exact one_val rfl | exact one_rows | exact one_ptr | exact one_fn | assumption) (Parts.c rfl rfl .c (by first | exact one_val rfl | exact one_rows | exact one_ptr | exact one_fn | assumption) (Parts.c rfl rfl .c (by first | exact one_val rfl | exact one_rows | exact one_ptr | exact one_fn | assumption) Parts.nil)))) rfl rfl (by intro r hr; obtain ⟨x, _, rfl⟩ := List.mem_map.1 hr; rfl)) ?_
    refine RunD.callP 0 rfl rfl (c_spec_l6Rd_of br code (p + 1 + 1) bentE (by omega) hcl (by decide)) (args_cons .tt (args_cons .r args_nil)) ?_
    refine .o (ok_cat .tt .tt (fun _ => by have h1 := sumL_elt (l := (splitB 10 s)) (i := x14.toNat) (by omega); have h2 := bentE_len (pickI code (p + 1 + 1) bentE.length).toNat; omega)) ?_
    refine .r [1] (ok_idxO un47 ty9 .tt .tt (fun _ => by rw [List.length_map]; omega)) ?_
    refine RunD.eff (x := AV.any) 1 (fun F W0 I0 I a w Q hs kk => hs.storeR1 (j := 0) 1 ty9 .tt .tt (by first | exact one_val rfl | exact one_rows | exact one_ptr | exact one_fn | assumption) rfl (by exact map_get (by omega)) rfl rfl fun a w hs => kk _ _ _ hs) ?_
    refine .nil ?_
    intro I a w hs
    have hw := bentE_len (pickI code (p + 1 + 1) bentE.length).toNat
    have e9 : ∀ y, y = textCell (elt (splitB 10 s) x14.toNat ++ elt bentE (pickI code (p + 1 + 1) bentE.length).toNat) → (List.map textCell (splitB 10 s)).set x14.toNat y = List.map textCell ((splitB 10 s).set x14.toNat (elt (splitB 10 s) x14.toNat ++ elt bentE (pickI code (p + 1 + 1) bentE.length).toNat)) := fun y hy => by rw [hy, List.map_set]
    rw [e9] at hs
    rotate_left
    ·rfl
    generalize elt bentE (pickI code (p + 1 + 1) bentE.length).toNat = ww at hs hw
    refine block_n <| then_n ?_
    exact hs.me ((splitB 10 s).set x14.toNat (elt (splitB 10 s) x14.toNat ++ ww), p + 1 + 1 + 1) (by first | exact ⟨by simp, bent_step hsum (by omega), by first | omega | (dsimp only; omega) | (dsimp only; push_cast; omega) | (push_cast; omega) | simp, by first | omega | (dsimp only; omega) | (dsimp only; push_cast; omega) | (push_cast; omega) | simp⟩ | exact ⟨by simp, bent_step hsum (by have := sumL_elt (l := (splitB 10 s)) (i := x14.toNat) (by omega); rw [List.length_append]; omega), by first | omega | (dsimp only; omega) | (dsimp only; push_cast; omega) | (push_cast; omega) | simp, by first | omega | (dsimp only; omega) | (dsimp only; push_cast; omega) | (push_cast; omega) | simp⟩ | exact ⟨by simp, bent_step hsum (by have := sumL_elt (l := (splitB 10 s)) (i := x60.toNat) (by omega); omega), by first | omega | (dsimp only; omega) | (dsimp only; push_cast; omega) | (push_cast; omega) | simp, by first | omega | (dsimp only; omega) | (dsimp only; push_cast; omega) | (push_cast; omega) | simp⟩ | exact ⟨by simp, bent_step hsum (by have := sumL_elt (l := (splitB 10 s)) (i := x14.toNat) (by omega); rw [List.length_drop]; omega), by first | omega | (dsimp only; omega) | (dsimp only; push_cast; omega) | (push_cast; omega) | simp, by first | omega | (dsimp only; omega) | (dsimp only; push_cast; omega) | (push_cast; omega) | simp⟩ | exact ⟨rfl, by omega, by first | omega | (dsimp only; omega) | (dsimp only; push_cast; omega) | (push_cast; omega) | simp, by first | omega | (dsimp only; omega) | (dsimp only; push_cast; omega) | (push_cast; omega) | simp⟩)
   ·skip
    refine sr <| hs.o .eqic fun hs => hs.s fun hs => nn ?_
    refine hs.cd (fun hb3 => ?_) fun hb3 => ?_
    ·skip
     refine St.region <| hs.m fun hs => hs.m fun hs => hs.m fun hs => hs.m fun hs => hs.m fun hs => hs.o (ok_lenO 1 un47 .tt rfl) fun hs => ?_
     refine hs.callM [0] (c_spec_l6Rd_pick br code (p + 1 + 1) ((List.map textCell (splitB 10 s)).length : Int) (by omega) hcl) (args_cons .tt (args_cons .tt args_nil)) rfl (by decide) rfl fun I a w hs => ?_
     have hy := pickI_in code (p + 1 + 1) (n := ((List.map textCell (splitB 10 s)).length : Int)) (by rw [List.length_map]; omega)
     generalize pickI code (p + 1 + 1) ((List.map textCell (splitB 10 s)).length : Int) = x60 at hs hy
     rw [List.length_map] at hy
     refine hs.o (ok_idxO un47 ty9 .tt .tt (fun _ => by rw [List.length_map]; omega)) fun hs => ?_
     refine hs.o (ok_loadO1 (j := 0) 1 ty9 .tt rfl (fun _ => by exact map_get (by omega)) rfl rfl rfl) fun hs => ?_
     refine hs.o (ok_idxO un47 ty9 .tt .tt (fun _ => by rw [List.length_map]; omega)) fun hs => ?_
     refine hs.storeR1 (j := 0) 1 ty9 .tt .tt (by first | exact one_val rfl | exact one_rows | exact one_ptr | exact one_fn | assumption) rfl (by exact map_get (by omega)) rfl rfl fun a w hs => ?_
     refine wpList_nil ?_
     have e9 : ∀ y, y = textCell (elt (splitB 10 s) x60.toNat) → (List.map textCell (splitB 10 s)).set x14.toNat y = List.map textCell ((splitB 10 s).set x14.toNat (elt (splitB 10 s) x60.toNat)) := fun y hy => by rw [hy, List.map_set]
     rw [e9] at hs
     rotate_left
     ·rfl
     refine block_n <| then_n ?_
     exact hs.me ((splitB 10 s).set x14.toNat (elt (splitB 10 s) x60.toNat), p + 1 + 1 + 1) (by first | exact ⟨by simp, bent_step hsum (by omega), by first | omega | (dsimp only; omega) | (dsimp only; push_cast; omega) | (push_cast; omega) | simp, by first | omega | (dsimp only; omega) | (dsimp only; push_cast; omega) | (push_cast; omega) | simp⟩ | exact ⟨by simp, bent_step hsum (by have := sumL_elt (l := (splitB 10 s)) (i := x14.toNat) (by omega); rw [List.length_append]; omega), by first | omega | (dsimp only; omega) | (dsimp only; push_cast; omega) | (push_cast; omega) | simp, by first | omega | (dsimp only; omega) | (dsimp only; push_cast; omega) | (push_cast; omega) | simp⟩ | exact ⟨by simp, bent_step hsum (by have := sumL_elt (l := (splitB 10 s)) (i := x60.toNat) (by omega); omega), by first | omega | (dsimp only; omega) | (dsimp only; push_cast; omega) | (push_cast; omega) | simp, by first | omega | (dsimp only; omega) | (dsimp only; push_cast; omega) | (push_cast; omega) | simp⟩ | exact ⟨by simp, bent_step hsum (by have := sumL_elt (l := (splitB 10 s)) (i := x14.toNat) (by omega); rw [List.length_drop]; omega), by first | omega | (dsimp only; omega) | (dsimp only; push_cast; omega) | (push_cast; omega) | simp, by first | omega | (dsimp only; omega) | (dsimp only; push_cast; omega) | (push_cast; omega) | simp⟩ | exact ⟨rfl, by omega, by first | omega | (dsimp only; omega) | (dsimp only; push_cast; omega) | (push_cast; omega) | simp, by first | omega | (dsimp only; omega) | (dsimp only; push_cast; omega) | (push_cast; omega) | simp⟩)
    ·skip
     refine sr <| hs.m fun hs => hs.m fun hs => ?_
     refine hs.o (ok_idxO un47 ty9 .tt .tt (fun _ => by rw [List.length_map]; omega)) fun hs => ?_
     refine hs.o (ok_loadO1 (j := 0) 1 ty9 .tt rfl (fun _ => by exact map_get (by omega)) rfl rfl rfl) fun hs => ?_
     refine hs.o (ok_lenT un9 .tt) fun hs => hs.o .gtrc fun hs => nn ?_
     refine hs.cd (fun hb4 => ?_) fun hb4 => ?_
     ·try simp only [B] at hb4
      refine St.region <| hs.m fun hs => hs.m fun hs => hs.m fun hs => hs.m fun hs => ?_
      refine hs.o (ok_idxO un47 ty9 .tt .tt (fun _ => by rw [List.length_map]; omega)) fun hs => ?_
      refine hs.o (ok_loadO1 (j := 0) 1 ty9 .tt rfl (fun _ => by exact map_get (by omega)) rfl rfl rfl) fun hs => ?_
      refine hs.o (ok_slTL un9 .tt .c (fun _ => by omega)) fun hs => ?_
      refine hs.o (ok_idxO un47 ty9 .tt .tt (fun _ => by rw [List.length_map]; omega)) fun hs => ?_
      refine hs.storeR1 (j := 0) 1 ty9 .tt .tt (by first | exact one_val rfl | exact one_rows | exact one_ptr | exact one_fn | assumption) rfl (by exact map_get (by omega)) rfl rfl fun a w hs => ?_
      refine wpList_nil ?_
      have e9 : ∀ y, y = textCell ((elt (splitB 10 s) x14.toNat).drop 1) → (List.map textCell (splitB 10 s)).set x14.toNat y = List.map textCell ((splitB 10 s).set x14.toNat ((elt (splitB 10 s) x14.toNat).drop 1)) := fun y hy => by rw [hy, List.map_set]
      rw [e9] at hs
      rotate_left
      ·rfl
      refine block_n <| then_n ?_
      exact hs.me ((splitB 10 s).set x14.toNat ((elt (splitB 10 s) x14.toNat).drop 1), p + 1 + 1) (by first | exact ⟨by simp, bent_step hsum (by omega), by first | omega | (dsimp only; omega) | (dsimp only; push_cast; omega) | (push_cast; omega) | simp, by first | omega | (dsimp only; omega) | (dsimp only; push_cast; omega) | (push_cast; omega) | simp⟩ | exact ⟨by simp, bent_step hsum (by have := sumL_elt (l := (splitB 10 s)) (i := x14.toNat) (by omega); rw [List.length_append]; omega), by first | omega | (dsimp only; omega) | (dsimp only; push_cast; omega) | (push_cast; omega) | simp, by first | omega | (dsimp only; omega) | (dsimp only; push_cast; omega) | (push_cast; omega) | simp⟩ | exact ⟨by simp, bent_step hsum (by have := sumL_elt (l := (splitB 10 s)) (i := x60.toNat) (by omega); omega), by first | omega | (dsimp only; omega) | (dsimp only; push_cast; omega) | (push_cast; omega) | simp, by first | omega | (dsimp only; omega) | (dsimp only; push_cast; omega) | (push_cast; omega) | simp⟩ | exact ⟨by simp, bent_step hsum (by have := sumL_elt (l := (splitB 10 s)) (i := x14.toNat) (by omega); rw [List.length_drop]; omega), by first | omega | (dsimp only; omega) | (dsimp only; push_cast; omega) | (push_cast; omega) | simp, by first | omega | (dsimp only; omega) | (dsimp only; push_cast; omega) | (push_cast; omega) | simp⟩ | exact ⟨rfl, by omega, by first | omega | (dsimp only; omega) | (dsimp only; push_cast; omega) | (push_cast; omega) | simp, by first | omega | (dsimp only; omega) | (dsimp only; push_cast; omega) | (push_cast; omega) | simp⟩)
     ·try simp only [B] at hb4
      refine wp_skip <| block_n <| then_n ?_
      exact hs.me ((splitB 10 s), p + 1 + 1) (by first | exact ⟨by simp, bent_step hsum (by omega), by first | omega | (dsimp only; omega) | (dsimp only; push_cast; omega) | (push_cast; omega) | simp, by first | omega | (dsimp only; omega) | (dsimp only; push_cast; omega) | (push_cast; omega) | simp⟩ | exact ⟨by simp, bent_step hsum (by have := sumL_elt (l := (splitB 10 s)) (i := x14.toNat) (by omega); rw [List.length_append]; omega), by first | omega | (dsimp only; omega) | (dsimp only; push_cast; omega) | (push_cast; omega) | simp, by first | omega | (dsimp only; omega) | (dsimp only; push_cast; omega) | (push_cast; omega) | simp⟩ | exact ⟨by simp, bent_step hsum (by have := sumL_elt (l := (splitB 10 s)) (i := x60.toNat) (by omega); omega), by first | omega | (dsimp only; omega) | (dsimp only; push_cast; omega) | (push_cast; omega) | simp, by first | omega | (dsimp only; omega) | (dsimp only; push_cast; omega) | (push_cast; omega) | simp⟩ | exact ⟨by simp, bent_step hsum (by have := sumL_elt (l := (splitB 10 s)) (i := x14.toNat) (by omega); rw [List.length_drop]; omega), by first | omega | (dsimp only; omega) | (dsimp only; push_cast; omega) | (push_cast; omega) | simp, by first | omega | (dsimp only; omega) | (dsimp only; push_cast; omega) | (push_cast; omega) | simp⟩ | exact ⟨rfl, by omega, by first | omega | (dsimp only; omega) | (dsimp only; push_cast; omega) | (push_cast; omega) | simp, by first | omega | (dsimp only; omega) | (dsimp only; push_cast; omega) | (push_cast; omega) | simp⟩)
 case cutB3 =>
  rintro ⟨ls, p2⟩ I a w hok hs
  obtain ⟨hl1, hl2, hp4, hp5⟩ := hok
  change St _ _ [Own.box br 66 [bytesAV code, AV.int (p2)], Own.row (.slice (some ⟨bk1, 0, none⟩) (List.map textCell (splitB 10 s)).length ck1) 9 1 (List.map textCell ls)] _ _ _ at hs
  rw [show (List.map textCell (splitB 10 s)).length = (List.map textCell ls).length by rw [List.length_map, List.length_map, hl1]] at hs
  refine sr <| hs.m fun hs => ?_
  refine hs.o (ok_idxO un47 ty9 .tt .c (fun _ => by rw [List.length_map]; omega)) fun hs => ?_
  refine hs.o (ok_loadO1 (i := 0) (j := 0) 1 ty9 .tt rfl (fun _ => map_get (by omega)) rfl rfl rfl) fun hs => ?_
  refine hs.s fun hs => nn <| wp_seq <| sr <| hs.sc fun hs => nn <| wp_block ?_
  refine St.lo (σ := Nat × List UInt8) (run 2 7 (run 13 67 [])) ⟨fun ⟨j, out⟩ => [(8, AV.int j), (7, AV.text out)], fun ⟨j, out⟩ => [Own.box br 66 [bytesAV code, AV.int (p2)], Own.row (.slice (some ⟨bk1, 0, none⟩) (List.map textCell ls).length ck1) 9 1 (List.map textCell ls)], fun ⟨j, out⟩ => 1 ≤ j ∧ j ≤ ls.length ∧ out.length + 1 ≤ sumL (ls.take j)⟩ (fun ⟨j, out⟩ => ls.length - j) (1, elt ls 0) hs ?ok1 ?round1
  case ok1 => exact ⟨Nat.le_refl _, by omega, by rw [sumL_take ls 0 (by omega)]; simp [sumL]⟩
  case round1 =>
   rintro ⟨j, out⟩ I a w hok hs
   obtain ⟨hj1, hj2, hol⟩ := hok
   change St _ _ [Own.box br 66 [bytesAV code, AV.int (p2)], Own.row (.slice (some ⟨bk1, 0, none⟩) (List.map textCell ls).length ck1) 9 1 (List.map textCell ls)] _ _ _ at hs
   have hle := sumL_le ls j
   refine wp_seq <| sr <| hs.m fun hs => hs.m fun hs => hs.o (ok_lenO 1 un47 .tt rfl) fun hs => hs.o .lss fun hs => nn ?_
   refine hs.cd (fun hb5 => ?_) fun hb5 => ?_
   ·simp only [B, List.length_map] at hb5
    refine wp_skip <| then_n <| wp_seq <| wp_block <| St.region <| hs.m fun hs => ?_
    refine hs.o (ok_cat .tt .c (fun _ => by simp only [List.length_cons, List.length_nil]; omega)) fun hs => ?_
    refine hs.m fun hs => hs.m fun hs => ?_
    refine hs.o (ok_idxO un47 ty9 .tt .tt (fun _ => by rw [List.length_map]; omega)) fun hs => ?_
    refine hs.o (ok_loadO1 (j := 0) 1 ty9 .tt rfl (fun _ => by exact map_get (by omega)) rfl rfl rfl) fun hs => ?_
    refine hs.o (ok_cat .tt .tt (fun _ => by have h1 := sumL_elt (l := ls) (i := j) (by omega); simp only [List.length_append, List.length_cons, List.length_nil, Int.toNat_natCast]; omega)) fun hs => ?_
    refine hs.s fun hs => wpList_nil <| block_n <| then_n <| St.region <| hs.m fun hs => ?_
    refine hs.o .ad fun hs => ?_
    refine hs.s fun hs => nn ?_
    exact hs.ag (j + 1, out ++ [10] ++ elt ls j) (⟨by show 1 ≤ j + 1; omega, by show j + 1 ≤ ls.length; omega, by show (out ++ [10] ++ elt ls j).length + 1 ≤ sumL (ls.take (j + 1)); rw [sumL_take ls j (by omega), List.length_append, List.length_append]; simp; omega⟩) (hμ := by show ls.length - (j + 1) < ls.length - j; omega)
   ·simp only [B, List.length_map] at hb5
    refine wp_exit <| then_x <| then_x <| block_hit <| then_n <| sr <| hs.m fun hs => hs.s fun hs => nn <| wp_ret ?_
    have hlast : out.length + 1 ≤ sumL ls := by have := sumL_le ls j; omega
    refine hs.retE (out, p2) [0] rfl (.cons (.t rfl) .nil) (by (try dsimp only); exact ⟨by omega, hp4, hp5⟩) rfl rfl
set_option maxHeartbeats 4000000 in
theorem c_spec_DrawNeckRead (code : List UInt8) (hcl : code.length ≤ 1099511627776) :
    FnX Tryz.prog 6 [bytesAV code] (fun t : List UInt8 => t.length ≤ 200000) (fun t => AV.text t) := by
 refine FnX.intro 27 Tryz.func6 rfl Tryz.ntmps6 rfl (by kernel_rfl) (fun W I a hs => ?_)
 refine sr <| hs.sc fun hs => nn <| sr <| hs.m fun hs => ?_
 refine hs.callE [] (c_spec_l6Open code hcl) (args_cons .r args_nil) rfl (by decide) rfl fun r6 I a w hok6 hs => ?_
 obtain ⟨br, cd⟩ := r6
 replace hok6 : cd.length ≤ 1099511627776 := hok6
 change St _ _ [Own.box br 66 [bytesAV cd, AV.int (0)]] _ _ _ at hs
 have hcd := hok6
 refine hs.s fun hs => nn <| wp_seq <| sr <| hs.m fun hs => ?_
 refine hs.callM [0] (c_spec_l6Rd_pick br cd (0) (24) (by omega) hcd) (args_cons .tt (args_cons .c args_nil)) rfl (by decide) rfl fun I a w hs => ?_
 generalize pickI cd 0 24 = x8 at hs
 refine hs.o .eqic fun hs => nn ?_
 refine hs.cd (fun hb1 => ?_) fun hb1 => ?_
 ·skip
  refine sr <| hs.m fun hs => ?_
  refine hs.callM [0] (c_spec_l6Rd_pick br cd (0 + 1) (2) (by omega) hcd) (args_cons .tt (args_cons .c args_nil)) rfl (by decide) rfl fun I a w hs => ?_
  have hx := pickI_in cd (0 + 1) (n := 2) (by omega)
  generalize pickI cd (0 + 1) 2 = x11 at hs hx
  obtain ⟨m11, rfl⟩ := Int.eq_ofNat_of_zero_le hx.1
  refine hs.o .ad fun hs => ?_
  rw [show (60000 + (m11 : Int)) = ((60000 + m11 : Nat) : Int) from by omega] at hs
  refine hs.callE [] (c_spec_l6Many [10] (60000 + m11) (by show 1 * (60000 + m11) ≤ 1048576; omega) (by omega)) (args_cons .c (args_cons .tt args_nil)) rfl (by decide) rfl fun t13 I a w hok13 hs => ?_
  change St _ _ [Own.box br 66 [bytesAV cd, AV.int (0 + 1 + 1)]] _ _ _ at hs
  replace hok13 : t13.length = 1 * (60000 + m11) := hok13
  refine hs.s fun hs => nn <| wp_ret <| then_r ?_
  refine hs.retE (t13) [] rfl (.cons (.t rfl) .nil) (by (try dsimp only); omega) rfl rfl
 ·skip
  refine wp_skip <| then_n <| sr <| hs.m fun hs => ?_
  refine hs.callE [0] (c_spec_l71Play br cd hcd (0 + 1) 1 (by omega) (by omega) (by omega) 12 (by omega)) (args_cons .tt (args_cons .c args_nil)) rfl (by decide) rfl fun r15 I a w hok15 hs => ?_
  obtain ⟨bs, s1, p1⟩ := r15
  replace hok15 : SimIn (1 + 26000) s1 ∧ 0 ≤ p1 ∧ p1 ≤ ((1 + 26000 : Nat) : Int) := hok15
  obtain ⟨hs1, hp0, hp1⟩ := hok15
  obtain ⟨w1, l1, v1⟩ := s1
  change St _ _ [Own.box bs 43 [AV.val (.pointer (some ⟨br, 0, none⟩)), AV.int w1.time, serversAV w1.servers, wordsAV w1.radio, callsAV w1.calls, seenAV w1.seen, AV.val v1], Own.row v1 50 11 (l1.map Ev.cells), Own.box br 66 [bytesAV cd, AV.int (p1)]] _ _ _ at hs
  have hfit := hs1.fit
  have hlen := hs1.len
  replace hfit : ∀ e ∈ l1, e.Near := hfit
  replace hlen : l1.length ≤ 1 + 26000 := hlen
  refine hs.o .nl fun hs => ?_
  refine hs.o .fv fun hs => hs.o (.lb 0) fun hs => ?_
  refine hs.o (ok_callB0 1 (args_cons .tt args_nil) rfl (c_spec_NeckWrite l1 (by omega) (fun e he => (hfit e he).fit)) (fun _ _ _ h => h)) fun hs => ?_
  refine hs.s fun hs => nn <| wp_seq <| sr <| hs.m fun hs => ?_
  refine hs.callM [2] (c_spec_l6Rd_pick br cd (p1) (2) (by omega) hcd) (args_cons .tt (args_cons .c args_nil)) rfl (by decide) rfl fun I a w hs => ?_
  generalize pickI cd p1 2 = x21 at hs
  refine hs.o .eqic fun hs => nn ?_
  refine hs.cd (fun hb2 => ?_) fun hb2 => ?_
  ·skip
   refine sr <| hs.m fun hs => hs.s fun hs => nn <| wp_ret <| then_r ?_
   refine hs.retE (neckW [] l1) [] rfl (.cons (.t rfl) .nil) (by (try dsimp only); have := neckW_len l1; omega) rfl rfl
  ·skip
   refine wp_skip <| then_n <| sr <| hs.m fun hs => hs.m fun hs => ?_
   refine hs.callE [2] (c_spec_l73Lines br cd hcd (neckW [] l1) (p1 + 1) (by omega) (by have := neckW_len l1; omega)) (args_cons .tt (args_cons .tt args_nil)) rfl (by decide) rfl fun r26 I a w hok26 hs => ?_
   obtain ⟨t26, p26⟩ := r26
   have hn60 := neckW_len l1
   replace hok26 : t26.length ≤ 2 * (neckW [] l1).length + 30 ∧ _ := hok26
   refine hs.s fun hs => nn <| wp_ret ?_
   refine hs.retE (t26) [] rfl (.cons (.t rfl) .nil) (by (try dsimp only); omega) rfl rfl
end Go.Proofs.YtkoebplikhlapaaGreatDoor
