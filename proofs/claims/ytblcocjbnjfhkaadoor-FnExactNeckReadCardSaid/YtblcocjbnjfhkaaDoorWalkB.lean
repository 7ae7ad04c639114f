/- Walks: the program reads a line. -/
import Derived.Test.YtblcocjbnjfhkaaDoorWalkA
set_option linter.unusedVariables false
set_option linter.unusedSimpArgs false
set_option maxRecDepth 100000
namespace Go.Proofs.YtblcocjbnjfhkaaDoor
open Go Go.RowKit


theorem ok_slLM {P : Program} {H : List Own} {Γ : Env} {g : Bool} {d : Option Tmp} {y z : Operand} {ty T E : TypeId} {p : String} {af : Array Edge} {gd : Option (Nat × Bool)} {m : Nat} {zv : Value} {α : Type} {s : Nat} {ag : Bool} {fc : α → List AV} {l : List α} {lo : Nat} (hT : P.underlying T = some (.slice E)) (hE : Ty P E ag s m zv) (h : At Γ g y (.rows s (l.map fc))) (h1 : At Γ g z (.int (lo : Int))) (hb : g = true → lo ≤ l.length) :
    Ok P H Γ g ⟨d, .slice T y (some z) none none, ty, p, af, gd⟩ (.rows s ((l.drop lo).map fc)) := by
  have := ok_slL (H := H) (d := d) (ty := ty) (p := p) (af := af) (gd := gd) hT hE h h1 (fun e => ⟨by omega, by rw [List.length_map]; have := hb e; omega⟩)
  rwa [Int.toNat_natCast, ← List.map_drop] at this
def setK (j : Nat) (ns : List Int) (m : Nat) : List Int := (((formAt j).offs.zip ns).take m).foldl (fun l p => l.set p.1 p.2) (formAt j).ev.ints
theorem zset_len : ∀ (ps : List (Nat × Int)) (l : List Int), (ps.foldl (fun l p => l.set p.1 p.2) l).length = l.length
  | [], l => rfl
  | p :: ps, l => by rw [List.foldl_cons, zset_len ps]; simp
theorem setK_len (j : Nat) (ns : List Int) (m : Nat) : (setK j ns m).length = 11 := by unfold setK; rw [zset_len]; rfl
theorem setK_all {j m : Nat} {ns : List Int} (h : ns.length ≤ m) : setK j ns m = setTo j ns := by
  unfold setK setTo; rw [List.take_of_length_le (by simp; omega)]
theorem setK_succ {j m : Nat} {ns : List Int} (h1 : m < (formAt j).offs.length) (h2 : m < ns.length) : ((setK j ns m).map AV.int).set (elt (formAt j).offs m) (.int (elt ns m)) = (setK j ns (m + 1)).map AV.int := by
  unfold setK
  rw [List.take_succ_eq_append_getElem (by simp; omega), List.foldl_append]
  simp [elt, h1, h2, List.map_set]
theorem evOf_ints : ∀ {l : List Int}, l.length = 11 → (evOf l).ints = l
  | [_, _, _, _, _, _, _, _, _, _, _], _ => rfl
theorem word_bad {w : List UInt8} (h : (atoiV w).2 = true ∨ written (atoiV w).1 = false ∨ dec (atoiV w).1 ≠ w) : parseB w < 0 := by
  refine Classical.byContradiction fun hn => ?_
  obtain ⟨h1, h2, h3⟩ := atoi_good (s := w) (by omega)
  rw [h1] at h
  rcases h with h | h | h
  · cases h
  · rw [h2] at h; cases h
  · exact h h3
theorem word_good {w : List UInt8} (h1 : (atoiV w).2 = false) (h2 : written (atoiV w).1 = true) (h3 : dec (atoiV w).1 = w) : 0 ≤ parseB w ∧ (atoiV w).1 = parseB w := by
  obtain ⟨e1, e2⟩ := atoi_bad h1 h2 h3
  exact ⟨e2, e1.symm⟩
theorem word_test {w : List UInt8} (h : ((atoiV w).2 || !written (atoiV w).1 || dec (atoiV w).1 != w) = true) : parseB w < 0 := by
  refine word_bad ?_
  simp only [Bool.or_eq_true, Bool.not_eq_true', bne_iff_ne] at h
  rcases h with (h | h) | h
  · exact .inl h
  · exact .inr (.inl h)
  · exact .inr (.inr h)
theorem word_test2 {w : List UInt8} (h : ((atoiV w).2 || !written (atoiV w).1 || dec (atoiV w).1 != w) = false) : 0 ≤ parseB w ∧ (atoiV w).1 = parseB w := by
  simp only [Bool.or_eq_false_iff, Bool.not_eq_false', bne_eq_false_iff_eq] at h
  exact word_good h.1.1 h.1.2 h.2
theorem elt_drop (ws : List (List UInt8)) (m : Nat) : elt (ws.drop 1) m = elt ws (m + 1) := by
  simp [elt, List.getD_eq_getElem?_getD, Nat.add_comm]
theorem elt_nums {ws : List (List UInt8)} {m : Nat} (h : m < (ws.drop 1).length) : elt (ws.tail.map parseB) m = parseB (elt (ws.drop 1) m) := by
  have h' : m + 1 < ws.length := by simp at h; omega
  have h2 : m < ws.tail.length := by simp; omega
  rw [elt_drop]
  simp [elt, List.getD_eq_getElem?_getD, h']
theorem nums_all {ws : List (List UInt8)} {m : Nat} (hm : (ws.drop 1).length ≤ m) (h : ∀ i, i < m → i < (ws.drop 1).length → 0 ≤ parseB (elt (ws.drop 1) i)) : ∀ x ∈ ws.tail.map parseB, (0 : Int) ≤ x := by
  intro x hx
  obtain ⟨i, hi, rfl⟩ := List.getElem_of_mem hx
  have hi2 : i < (ws.drop 1).length := by simpa using hi
  have := h i (by omega) hi2
  rw [← elt_nums hi2] at this
  have e : elt (ws.tail.map parseB) i = (ws.tail.map parseB)[i] := by unfold elt; rw [List.getD_eq_getElem?_getD, List.getElem?_eq_getElem hi]; rfl
  rw [e] at this; exact this

theorem c_impl_readEvent (s : List UInt8) (hl : s.length ≤ 1048576) :
    Fn Tryd.prog 24 [AV.tab4 (AV.text s)] (AV.tup [((readB s).getD default).av, AV.bool (readB s).isSome]) := by
  refine Fn.intro 76 Tryd.func24 rfl Tryd.ntmps24 rfl (by kernel_rfl) (fun W I a hs => ?_)
  have hsl := splitB_len 32 s
  have hsp := split_pos s
  refine wp_seq ?_
  refine St.region ?_
  refine hs.alloc rfl ty35 zc35 fun b2 I a w hs => ?_
  refine hs.op rfl rfl rfl (ok_assign .c) fun I a w hs => ?_
  refine wpList_nil ?_
  refine then_n ?_
  refine wp_seq ?_
  refine St.region ?_
  refine hs.op rfl rfl rfl (ok_move (.untab4 rfl)) fun I a w hs => ?_
  refine hs.op rfl rfl rfl (ok_call (c_strings_Split _ 32 hl) (args_cons (.tab4 (t := 0) rfl (.t rfl)) (args_cons .c args_nil))) fun I a w hs => ?_
  refine hs.op rfl rfl rfl (ok_assign (.t rfl)) fun I a w hs => ?_
  refine wpList_nil ?_
  refine then_n ?_
  refine wp_seq ?_
  refine wp_seq ?_
  refine St.region ?_
  refine hs.op rfl rfl rfl (ok_call (c_impl_forms ..) args_nil) fun I a w hs => ?_
  refine hs.op rfl rfl rfl ((by first | exact ok_lenM un59 (.t rfl) | exact ok_len un59 (.t rfl) | exact ok_lenV un59 (.t rfl))) fun I a w hs => ?_
  refine hs.op rfl rfl rfl (ok_move .c) fun I a w hs => ?_
  refine wpList_nil ?_
  refine then_n ?_
  refine wp_block ?_
  refine St.loopS (σ := Nat) (3 :: 6 :: 7 :: 8 :: 9 :: 10 :: 11 :: 12 :: 17 :: 18 :: 19 :: 20 :: 21 :: 22 :: 23 :: 24 :: 25 :: 26 :: 27 :: 28 :: 29 :: 30 :: 31 :: 32 :: 33 :: 34 :: 35 :: 36 :: 37 :: 38 :: 39 :: 40 :: 41 :: 42 :: 43 :: 44 :: 45 :: 46 :: 47 :: 48 :: 49 :: 50 :: 51 :: 52 :: 53 :: 54 :: 55 :: 56 :: 57 :: 58 :: 59 :: 60 :: 61 :: 62 :: 63 :: 64 :: 65 :: 66 :: 67 :: 68 :: 69 :: 70 :: 71 :: 72 :: 73 :: 74 :: []) ⟨fun k => [(17, AV.int k)], fun k => [Own.box b2 35 zeroEv], fun k => k ≤ 11 ∧ ∀ i, i < k → (formAt i).word ≠ elt (splitB 32 s) 0⟩ (fun k => 11 - k) 0 hs rfl ?ok1 ?env1 ?round1
  case ok1 => exact ⟨by omega, fun i hi => by omega⟩
  case env1 => exact (Env.le_consE rfl (by rfl) Env.le_nil)
  case round1 =>
    rintro k I a w hok hs
    obtain ⟨hk, hall⟩ := hok
    refine wp_seq ?_
    refine St.region ?_
    refine hs.op rfl rfl rfl (ok_lss (.t rfl) (.t rfl)) fun I a w hs => ?_
    refine wpList_nil ?_
    refine then_n ?_
    refine wp_seq ?_
    refine hs.cond (.t rfl) (fun hb1 => ?_) (fun hb1 => ?_)
    · try simp only [decide_eq_true_eq, decide_eq_false_iff_not, Bool.not_eq_true', Bool.not_eq_false', Bool.and_eq_true, Bool.or_eq_true, Bool.and_eq_false_iff, Bool.or_eq_false_iff, beq_iff_eq, bne_iff_ne, bne_eq_false_iff_eq, beq_eq_false_iff_ne, ne_eq, Int.not_lt, Int.not_le, Int.ofNat_lt, Int.ofNat_le] at hb1
      refine wp_skip ?_
      refine then_n ?_
      refine wp_seq ?_
      refine wp_block ?_
      refine wp_seq ?_
      refine St.region ?_
      have hkr := elt_range hb1
      have hj : elt (List.range 11) k < 11 := by rw [hkr]; simpa using hb1
      have h4 := form_offs_len _ hj
      refine hs.op rfl rfl rfl ((by first | exact ok_idxN un59 ty63 (.t rfl) (.t rfl) (fun _ => by exact hb1) | exact ok_idxM un59 ty63 (.t rfl) (.t rfl) (fun _ => by exact hb1) | exact ok_idx un59 ty63 (.t rfl) (.t rfl) (fun _ => by exact hb1))) fun I a w hs => ?_
      refine hs.op rfl rfl rfl ((by first | exact ok_loadA ty63 (.t rfl) rfl | exact ok_loadS ty63 (.t rfl) rfl)) fun I a w hs => ?_
      refine hs.alloc rfl ty63 zc63 fun b6 I a w hs => ?_
      refine hs.storeB 1 ty63 (.t rfl) (.t rfl) rfl (by first | rfl | assumption) rfl fun a w hs => ?_
      obtain ⟨I, hs, hf⟩ := hs.freezeBox 1 rfl
      have hs := hs.upd (t := 6) rfl hf; clear hf
      refine wpList_nil ?_
      refine then_n ?_
      refine wp_seq ?_
      refine wp_seq ?_
      refine hs.drawK (by kernel_rfl) (by kernel_rfl) rfl ?_
      refine RunK.cons (.of rfl (ok_fieldP fd63_0 rfl (.t rfl))) ?_
      refine RunK.cons (.of rfl (ok_load1 ty9 (.t rfl))) ?_
      refine RunK.cons (.of rfl (ok_move (.t rfl))) ?_
      refine RunK.cons (.of rfl ((by first | exact ok_idxN un51 ty9 (.t rfl) .c (fun _ => by omega) | exact ok_idxM un51 ty9 (.t rfl) .c (fun _ => by omega) | exact ok_idx un51 ty9 (.t rfl) .c (fun _ => by omega)))) ?_
      refine RunK.cons (.of rfl (ok_load1 ty9 (.t rfl))) ?_
      refine RunK.cons (.of rfl (ok_neT (.t rfl) (.t rfl))) ?_
      refine RunK.nil ?_
      intro I a w hs
      refine then_n ?_
      refine hs.cond (.t rfl) (fun hb2 => ?_) (fun hb2 => ?_)
      · try simp only [decide_eq_true_eq, decide_eq_false_iff_not, Bool.not_eq_true', Bool.not_eq_false', Bool.and_eq_true, Bool.or_eq_true, Bool.and_eq_false_iff, Bool.or_eq_false_iff, beq_iff_eq, bne_iff_ne, bne_eq_false_iff_eq, beq_eq_false_iff_ne, ne_eq, Int.not_lt, Int.not_le, Int.ofNat_lt, Int.ofNat_le] at hb2
        refine wp_exit ?_
        refine then_x ?_
        refine block_hit ?_
        refine then_n ?_
        refine St.region ?_
        refine hs.op rfl rfl rfl (ok_add (.t rfl) .c (fun _ => by omega)) fun I a w hs => ?_
        refine hs.op rfl rfl rfl (ok_move (.t rfl)) fun I a w hs => ?_
        refine wpList_nil ?_
        refine then_n ?_
        have hs := hs.drop 1
        refine hs.again (k + 1) ?mu1 ?ok1001 (by rfl) ?env1001 (by repeat (first | exact Env.le_rfl | refine Env.le_push rfl ?_))
        case mu1 => simp at hb1; omega
        case ok1001 => exact ⟨by simp at hb1; omega, fun i h1 => by rcases Nat.lt_succ_iff_lt_or_eq.1 h1 with h | h; exact hall i h; rw [hkr] at hb2; rw [h]; exact hb2⟩
        case env1001 => exact (Env.le_consE rfl (by first | rfl | (congr 1; done)) Env.le_nil)
      · try simp only [decide_eq_true_eq, decide_eq_false_iff_not, Bool.not_eq_true', Bool.not_eq_false', Bool.and_eq_true, Bool.or_eq_true, Bool.and_eq_false_iff, Bool.or_eq_false_iff, beq_iff_eq, bne_iff_ne, bne_eq_false_iff_eq, beq_eq_false_iff_ne, ne_eq, Int.not_lt, Int.not_le, Int.ofNat_lt, Int.ofNat_le] at hb2
        refine wp_skip ?_
        refine then_n ?_
        refine wp_seq ?_
        refine St.region ?_
        refine hs.op rfl rfl rfl (ok_fieldP fd63_1 rfl (.t rfl)) fun I a w hs => ?_
        refine hs.op rfl rfl rfl ((by first | exact ok_loadA ty35 (.t rfl) rfl | exact ok_loadS ty35 (.t rfl) rfl)) fun I a w hs => ?_
        refine hs.alloc rfl ty35 zc35 fun b7 I a w hs => ?_
        refine hs.storeB 2 ty35 (.t rfl) (.t rfl) rfl (by first | rfl | assumption) rfl fun a w hs => ?_
        refine wpList_nil ?_
        refine then_n ?_
        refine wp_seq ?_
        refine St.region ?_
        refine hs.op rfl rfl rfl (ok_fieldP fd63_2 rfl (.t rfl)) fun I a w hs => ?_
        refine hs.op rfl rfl rfl (ok_load1 ty61 (.t rfl)) fun I a w hs => ?_
        refine hs.op rfl rfl rfl (ok_callV (form_fields _ _ hj) (.t rfl) (args_cons (.t rfl) args_nil)) fun I a w hs => ?_
        refine hs.op rfl rfl rfl (ok_assign (.t rfl)) fun I a w hs => ?_
        refine wpList_nil ?_
        refine then_n ?_
        refine wp_seq ?_
        refine wp_seq ?_
        refine St.region ?_
        refine hs.op rfl rfl rfl (ok_move (.t rfl)) fun I a w hs => ?_
        refine hs.op rfl rfl rfl ((by first | exact ok_lenM un51 (.t rfl) | exact ok_len un51 (.t rfl) | exact ok_lenV un51 (.t rfl))) fun I a w hs => ?_
        refine hs.op rfl rfl rfl (ok_move (.t rfl)) fun I a w hs => ?_
        refine hs.op rfl rfl rfl ((by first | exact ok_lenM un66 (.t rfl) | exact ok_len un66 (.t rfl) | exact ok_lenV un66 (.t rfl))) fun I a w hs => ?_
        refine hs.op rfl rfl rfl (ok_add (.t rfl) .c (fun _ => by omega)) fun I a w hs => ?_
        refine hs.op rfl rfl rfl (ok_nei (.t rfl) (.t rfl)) fun I a w hs => ?_
        refine wpList_nil ?_
        refine then_n ?_
        refine hs.cond (.t rfl) (fun hb3 => ?_) (fun hb3 => ?_)
        · simp only [bne_iff_ne] at hb3
          refine wp_seq ?_
          refine St.region ?_
          refine hs.op rfl rfl rfl (ok_build (l0 := [AV.val (.int .i64 0), AV.val (.int .i64 0), AV.val (.int .i64 0), AV.val (.int .i64 0), AV.val (.int .i64 0), AV.val (.int .i64 0), AV.val (.int .i64 0), AV.val (.int .i64 0), AV.val (.int .i64 0), AV.val (.int .i64 0), AV.val (.int .i64 0)]) ty35 fk35 zc35 rfl Parts.nil) fun I a w hs => ?_
          refine hs.storeB 0 ty35 (.t rfl) (.t rfl) rfl (by first | rfl | assumption) rfl fun a w hs => ?_
          refine hs.op rfl rfl rfl (ok_assign .c) fun I a w hs => ?_
          refine wpList_nil ?_
          refine then_n ?_
          refine wp_ret ?_
          refine then_r ?_
          refine block_r ?_
          refine then_r ?_
          refine then_r ?_
          refine block_r ?_
          refine then_r ?_
          refine hs.ret rfl (.cons (.s 0 ty35 rfl rfl (by first | rfl | assumption)) (.cons (.t rfl) ResL.nil)) ?_
          exact (by rw [readB_len hj hb2 (by omega)]; rfl)
        · simp only [bne_eq_false_iff_eq] at hb3; have hmo9 : (splitB 32 s).length = (formAt (elt (List.range 11) k)).offs.length + 1 := by omega
          refine wp_skip ?_
          refine then_n ?_
          refine wp_seq ?_
          refine wp_seq ?_
          refine St.region ?_
          refine hs.op rfl rfl rfl (ok_move (.t rfl)) fun I a w hs => ?_
          refine hs.op rfl rfl rfl (ok_slLM (lo := 1) un51 ty9 (.t rfl) .c (fun _ => hsp)) fun I a w hs => ?_
          refine hs.op rfl rfl rfl ((by first | exact ok_lenM un51 (.t rfl) | exact ok_len un51 (.t rfl) | exact ok_lenV un51 (.t rfl))) fun I a w hs => ?_
          refine hs.op rfl rfl rfl (ok_move .c) fun I a w hs => ?_
          refine wpList_nil ?_
          refine then_n ?_
          refine wp_block ?_
          refine St.loopS (σ := Nat) (3 :: 9 :: 10 :: 11 :: 12 :: 42 :: 43 :: 44 :: 45 :: 46 :: 47 :: 48 :: 49 :: 50 :: 51 :: 52 :: 53 :: 54 :: 55 :: 56 :: 57 :: 58 :: 59 :: 60 :: 61 :: 62 :: 63 :: 64 :: 65 :: 66 :: 67 :: 68 :: 69 :: 70 :: 71 :: 72 :: []) ⟨fun m => [(42, AV.int m)], fun m => [Own.box b2 35 zeroEv, Own.gone, Own.box b7 35 ((setK (elt (List.range 11) k) ((splitB 32 s).tail.map parseB) m).map AV.int)], fun m => m ≤ ((splitB 32 s).drop 1).length ∧ ∀ i, i < m → i < ((splitB 32 s).drop 1).length → 0 ≤ parseB (elt ((splitB 32 s).drop 1) i)⟩ (fun m => ((splitB 32 s).drop 1).length - m) 0 hs rfl ?ok2 ?env2 ?round2
          case ok2 => exact ⟨by omega, fun i hi => by omega⟩
          case env2 => exact (Env.le_consE rfl (by rfl) Env.le_nil)
          case round2 =>
            rintro m I a w hok hs
            obtain ⟨hm, hgood⟩ := hok
            change St _ _ [Own.box b2 35 zeroEv, Own.gone, Own.box b7 35 ((setK (elt (List.range 11) k) ((splitB 32 s).tail.map parseB) m).map AV.int)] _ _ _ at hs
            refine wp_seq ?_
            refine St.region ?_
            refine hs.op rfl rfl rfl (ok_lss (.t rfl) (.t rfl)) fun I a w hs => ?_
            refine wpList_nil ?_
            refine then_n ?_
            refine wp_seq ?_
            refine hs.cond (.t rfl) (fun hb4 => ?_) (fun hb4 => ?_)
            · try simp only [decide_eq_true_eq, decide_eq_false_iff_not, Bool.not_eq_true', Bool.not_eq_false', Bool.and_eq_true, Bool.or_eq_true, Bool.and_eq_false_iff, Bool.or_eq_false_iff, beq_iff_eq, bne_iff_ne, bne_eq_false_iff_eq, beq_eq_false_iff_ne, ne_eq, Int.not_lt, Int.not_le, Int.ofNat_lt, Int.ofNat_le] at hb4
              refine wp_skip ?_
              refine then_n ?_
              refine wp_seq ?_
              refine wp_block ?_
              refine wp_seq ?_
              refine St.region ?_
              refine hs.op rfl rfl rfl (ok_move (.t rfl)) fun I a w hs => ?_
              have hwl : (elt ((splitB 32 s).drop 1) m).length ≤ 1048576 := by rw [elt_drop]; have := splitB_elt 32 s _ (elt_memT (l := splitB 32 s) (k := m + 1) (by simp at hb4; omega)); omega
              refine hs.op rfl rfl rfl ((by first | exact ok_idxN un51 ty9 (.t rfl) (.t rfl) (fun _ => by exact hb4) | exact ok_idxM un51 ty9 (.t rfl) (.t rfl) (fun _ => by exact hb4) | exact ok_idx un51 ty9 (.t rfl) (.t rfl) (fun _ => by exact hb4))) fun I a w hs => ?_
              refine hs.op rfl rfl rfl (ok_load1 ty9 (.t rfl)) fun I a w hs => ?_
              refine hs.op rfl rfl rfl (ok_assign (.t rfl)) fun I a w hs => ?_
              refine hs.op rfl rfl rfl (ok_assign (.t rfl)) fun I a w hs => ?_
              refine wpList_nil ?_
              refine then_n ?_
              refine wp_seq ?_
              refine St.region ?_
              refine hs.op rfl rfl rfl (ok_move (.t rfl)) fun I a w hs => ?_
              refine hs.op rfl rfl rfl (ok_call (c_strconv_Atoi _ hwl) (args_cons (.tab4 (t := 0) rfl (.t rfl)) args_nil)) fun I a w hs => ?_
              refine hs.op rfl rfl rfl (ok_move (.t rfl)) fun I a w hs => ?_
              refine hs.op rfl rfl rfl (ok_extract (.t rfl) rfl) fun I a w hs => ?_
              refine hs.op rfl rfl rfl (ok_extract (.t rfl) rfl) fun I a w hs => ?_
              refine hs.op rfl rfl rfl (ok_assign (.t rfl)) fun I a w hs => ?_
              refine hs.op rfl rfl rfl (ok_assign (.t rfl)) fun I a w hs => ?_
              refine wpList_nil ?_
              refine then_n ?_
              refine wp_seq ?_
              refine wp_seq ?_
              refine St.region ?_
              refine hs.op rfl rfl rfl (ok_move (.t rfl)) fun I a w hs => ?_
              refine hs.op rfl rfl rfl (ok_neNil Tryd.underlying46 (.t rfl)) fun I a w hs => ?_
              refine hs.op rfl rfl rfl (ok_move (.t rfl)) fun I a w hs => ?_
              refine hs.opG (guarded_F rfl rfl rfl) rfl rfl (ok_move (.t rfl)) fun I a w hs => ?_
              refine hs.opG (guarded_F rfl rfl rfl) rfl rfl (ok_call (c_impl_isWritten ..) (args_cons (.g rfl (fun hg => by first | exact hg | exact (Bool.and_eq_true_iff.1 hg).1 | exact (Bool.and_eq_true_iff.1 (Bool.and_eq_true_iff.1 hg).1).1)) args_nil)) fun I a w hs => ?_
              refine hs.opG (guarded_F rfl rfl rfl) rfl rfl (ok_not (.g rfl (fun hg => by first | exact hg | exact (Bool.and_eq_true_iff.1 hg).1 | exact (Bool.and_eq_true_iff.1 (Bool.and_eq_true_iff.1 hg).1).1))) fun I a w hs => ?_
              refine hs.op rfl rfl rfl (ok_or (.t rfl) .c (by first | exact .t rfl | exact .gc rfl (fun hg => hg) | exact .gc rfl (fun hg => (Bool.and_eq_true_iff.1 hg).1))) fun I a w hs => ?_
              refine hs.op rfl rfl rfl (ok_move (.t rfl)) fun I a w hs => ?_
              refine hs.opG (guarded_F rfl rfl rfl) rfl rfl (ok_move (.t rfl)) fun I a w hs => ?_
              refine hs.opG (guarded_F rfl rfl rfl) rfl rfl (ok_call (c_strconv_Itoa _ (atoiV_range _)) (args_cons (.tab41 (t := 0) rfl (.g rfl (fun hg => by first | exact hg | exact (Bool.and_eq_true_iff.1 hg).1 | exact (Bool.and_eq_true_iff.1 (Bool.and_eq_true_iff.1 hg).1).1))) args_nil)) fun I a w hs => ?_
              refine hs.opG (guarded_F rfl rfl rfl) rfl rfl (ok_move (.t rfl)) fun I a w hs => ?_
              refine hs.opG (guarded_F rfl rfl rfl) rfl rfl (ok_neT (.g rfl (fun hg => by first | exact hg | exact (Bool.and_eq_true_iff.1 hg).1 | exact (Bool.and_eq_true_iff.1 (Bool.and_eq_true_iff.1 hg).1).1)) (.g rfl (fun hg => by first | exact hg | exact (Bool.and_eq_true_iff.1 hg).1 | exact (Bool.and_eq_true_iff.1 (Bool.and_eq_true_iff.1 hg).1).1))) fun I a w hs => ?_
              refine hs.op rfl rfl rfl (ok_or (.t rfl) .c (by first | exact .t rfl | exact .gc rfl (fun hg => hg) | exact .gc rfl (fun hg => (Bool.and_eq_true_iff.1 hg).1))) fun I a w hs => ?_
              refine wpList_nil ?_
              refine then_n ?_
              refine hs.cond (.t rfl) (fun hb5 => ?_) (fun hb5 => ?_)
              · skip
                refine wp_seq ?_
                refine St.region ?_
                refine hs.op rfl rfl rfl (ok_build (l0 := [AV.val (.int .i64 0), AV.val (.int .i64 0), AV.val (.int .i64 0), AV.val (.int .i64 0), AV.val (.int .i64 0), AV.val (.int .i64 0), AV.val (.int .i64 0), AV.val (.int .i64 0), AV.val (.int .i64 0), AV.val (.int .i64 0), AV.val (.int .i64 0)]) ty35 fk35 zc35 rfl Parts.nil) fun I a w hs => ?_
                refine hs.storeB 0 ty35 (.t rfl) (.t rfl) rfl (by first | rfl | assumption) rfl fun a w hs => ?_
                refine hs.op rfl rfl rfl (ok_assign .c) fun I a w hs => ?_
                refine wpList_nil ?_
                refine then_n ?_
                refine wp_ret ?_
                refine then_r ?_
                refine block_r ?_
                refine then_r ?_
                refine then_r ?_
                refine block_r ?_
                refine then_r ?_
                refine block_r ?_
                refine then_r ?_
                refine then_r ?_
                refine block_r ?_
                refine then_r ?_
                refine hs.ret rfl (.cons (.s 0 ty35 rfl rfl (by first | rfl | assumption)) (.cons (.t rfl) ResL.nil)) ?_
                have hp := word_test hb5
                rw [elt_drop] at hp
                exact (by rw [readB_bad (k := m + 1) (by omega) (by simp at hb4; omega) hp]; rfl)
              · have hmo : m < (formAt (elt (List.range 11) k)).offs.length := by simp at hb4; omega
                refine wp_skip ?_
                refine then_n ?_
                refine St.region ?_
                refine hs.op rfl rfl rfl (ok_move (.t rfl)) fun I a w hs => ?_
                refine hs.op rfl rfl rfl (ok_move (.t rfl)) fun I a w hs => ?_
                refine hs.op rfl rfl rfl ((by first | exact ok_idxN un66 ty69 (.t rfl) (.t rfl) (fun _ => by exact hmo) | exact ok_idxM un66 ty69 (.t rfl) (.t rfl) (fun _ => by exact hmo) | exact ok_idx un66 ty69 (.t rfl) (.t rfl) (fun _ => by exact hmo))) fun I a w hs => ?_
                refine hs.op rfl rfl rfl (ok_load1 ty69 (.t rfl)) fun I a w hs => ?_
                refine hs.op rfl rfl rfl (ok_move (.t rfl)) fun I a w hs => ?_
                refine hs.op rfl rfl rfl ((by first | exact ok_nilV (.t rfl) | exact ok_nilPtr (.t rfl) | exact ok_nilF (.t rfl))) fun I a w hs => ?_
                refine hs.store1 2 ty3 (.t rfl) (.t rfl) (by first | exact one_val rfl | exact one_rows | exact one_ptr | exact one_fn) rfl (Nat.ble_eq_true_of_le (by simp only [List.length_map, setK_len]; exact form_offs _ hj _ (elt_mem hmo))) fun a w hs => ?_
                refine wpList_nil ?_
                refine block_n ?_
                refine then_n ?_
                refine St.region ?_
                refine hs.op rfl rfl rfl (ok_add (.t rfl) .c (fun _ => by omega)) fun I a w hs => ?_
                refine hs.op rfl rfl rfl (ok_move (.t rfl)) fun I a w hs => ?_
                refine wpList_nil ?_
                refine then_n ?_
                change St _ _ [Own.box b2 35 zeroEv, Own.gone, Own.box b7 35 (((setK (elt (List.range 11) k) ((splitB 32 s).tail.map parseB) m).map AV.int).set (elt (formAt (elt (List.range 11) k)).offs m) (.int (atoiV (elt ((splitB 32 s).drop 1) m)).1))] _ _ _ at hs
                rw [(word_test2 hb5).2, ← elt_nums hb4, setK_succ hmo (by simp at hb4 ⊢; omega)] at hs
                refine hs.again (m + 1) ?mu2 ?ok1002 (by rfl) ?env1002 (by repeat (first | exact Env.le_rfl | refine Env.le_push rfl ?_))
                case mu2 => omega
                case ok1002 => exact ⟨hb4, fun i h1 h2 => by rcases Nat.lt_succ_iff_lt_or_eq.1 h1 with h | h; exact hgood i h h2; rw [h]; exact (word_test2 hb5).1⟩
                case env1002 => exact (Env.le_consE rfl (by first | rfl | (congr 1; done)) Env.le_nil)
            · try simp only [decide_eq_true_eq, decide_eq_false_iff_not, Bool.not_eq_true', Bool.not_eq_false', Bool.and_eq_true, Bool.or_eq_true, Bool.and_eq_false_iff, Bool.or_eq_false_iff, beq_iff_eq, bne_iff_ne, bne_eq_false_iff_eq, beq_eq_false_iff_ne, ne_eq, Int.not_lt, Int.not_le, Int.ofNat_lt, Int.ofNat_le] at hb4
              refine wp_exit ?_
              refine then_x ?_
              refine then_x ?_
              refine block_hit ?_
              refine then_n ?_
              refine wp_seq ?_
              refine St.region ?_
              rw [setK_all (by simp at hb4 ⊢; omega)] at hs
              have hml : ((setTo (elt (List.range 11) k) ((splitB 32 s).tail.map parseB)).map AV.int).length = 11 := by have := setK_len (elt (List.range 11) k) ((splitB 32 s).tail.map parseB) m; rw [setK_all (by simp at hb4 ⊢; omega)] at this; simpa using this
              have hld : (((setTo (elt (List.range 11) k) ((splitB 32 s).tail.map parseB)).map AV.int).drop 0).take 11 = (setTo (elt (List.range 11) k) ((splitB 32 s).tail.map parseB)).map AV.int := by rw [List.drop_zero, List.take_of_length_le (by omega)]
              refine hs.op rfl rfl rfl (ok_loadBS 2 ty35 (.t rfl) rfl hld hml) fun I a w hs => ?_
              refine hs.storeB 0 ty35 (.t rfl) (.t rfl) rfl (by first | rfl | assumption) rfl fun a w hs => ?_
              refine hs.op rfl rfl rfl (ok_assign .c) fun I a w hs => ?_
              refine wpList_nil ?_
              refine then_n ?_
              refine wp_ret ?_
              refine block_r ?_
              refine then_r ?_
              refine then_r ?_
              refine block_r ?_
              refine then_r ?_
              refine hs.ret rfl (.cons (.s 0 ty35 rfl rfl (by first | rfl | assumption)) (.cons (.t rfl) ResL.nil)) ?_
              have e9 := readB_form hj hb2 hmo9 (nums_all (by omega) hgood)
              have e8 := evOf_ints (l := setTo (elt (List.range 11) k) ((splitB 32 s).tail.map parseB)) (by simpa using hml)
              exact (by rw [e9]; show resAV [AV.agg ((setTo (elt (List.range 11) k) ((splitB 32 s).tail.map parseB)).map AV.int), AV.bool true] = AV.tup [AV.agg (evOf (setTo (elt (List.range 11) k) ((splitB 32 s).tail.map parseB))).cells, AV.bool true]; rw [Ev.cells_ints, e8]; rfl)
    · try simp only [decide_eq_true_eq, decide_eq_false_iff_not, Bool.not_eq_true', Bool.not_eq_false', Bool.and_eq_true, Bool.or_eq_true, Bool.and_eq_false_iff, Bool.or_eq_false_iff, beq_iff_eq, bne_iff_ne, bne_eq_false_iff_eq, beq_eq_false_iff_ne, ne_eq, Int.not_lt, Int.not_le, Int.ofNat_lt, Int.ofNat_le] at hb1
      refine wp_exit ?_
      refine then_x ?_
      refine then_x ?_
      refine block_hit ?_
      refine then_n ?_
      refine wp_seq ?_
      refine St.region ?_
      refine hs.op rfl rfl rfl (ok_build (l0 := [AV.val (.int .i64 0), AV.val (.int .i64 0), AV.val (.int .i64 0), AV.val (.int .i64 0), AV.val (.int .i64 0), AV.val (.int .i64 0), AV.val (.int .i64 0), AV.val (.int .i64 0), AV.val (.int .i64 0), AV.val (.int .i64 0), AV.val (.int .i64 0)]) ty35 fk35 zc35 rfl Parts.nil) fun I a w hs => ?_
      refine hs.storeB 0 ty35 (.t rfl) (.t rfl) rfl (by first | rfl | assumption) rfl fun a w hs => ?_
      refine hs.op rfl rfl rfl (ok_assign .c) fun I a w hs => ?_
      refine wpList_nil ?_
      refine then_n ?_
      refine wp_ret ?_
      refine hs.ret rfl (.cons (.s 0 ty35 rfl rfl (by first | rfl | assumption)) (.cons (.t rfl) ResL.nil)) ?_
      exact (by rw [readB_noform (fun i hi => hall i (by simp at hb1; omega))]; rfl)

end Go.Proofs.YtblcocjbnjfhkaaDoor
