/- Part 44: rules of the proofs, contracts of functions, plain facts. -/
import Derived.ProofKit
import Derived.OpenShut
import Derived.Deep.DeepHandedRow
import Derived.Deep.Slices
import Derived.Lib.LaidTab
import Derived.LaidSub
import Derived.Carry
import Derived.Test.YtkoebplikhlapaaGreatDoorRows
import Derived.Test.YtkoebplikhlapaaGreatDoorTie
import Derived.Test.YtkoebplikhlapaaGreatDoorCards
import Derived.JoinedCond
import Derived.Test.YtkoebplikhlapaaGreatDoorP43
set_option linter.unusedVariables false
set_option linter.unusedSimpArgs false
set_option maxRecDepth 100000
namespace Go.Proofs.YtkoebplikhlapaaGreatDoor
open Go Go.RowKit
theorem succ64 {x : Int} (h : near x) : i64r (x + 1) := by unfold near at h; unfold i64r; omega
section
variable {e : Ev} {v : Int}
theorem near64 {x : Int} (h : near x) : i64r x := by unfold near at h; unfold i64r; omega
theorem fit_kind (h : e.Near) (hv : i64r v) : Ev.Fit { e with kind := v } := by
  obtain ⟨h1, h2, h3, h4, h5, h6, h7, h8, h9, h10, h11⟩ := h.all
  exact fit64 rfl ⟨hv, near64 h2, near64 h3, near64 h4, near64 h5, near64 h6, near64 h7, near64 h8, near64 h9, near64 h10, near64 h11⟩
theorem fit_at (h : e.Near) (hv : i64r v) : Ev.Fit { e with at_ := v } := by
  obtain ⟨h1, h2, h3, h4, h5, h6, h7, h8, h9, h10, h11⟩ := h.all
  exact fit64 rfl ⟨near64 h1, hv, near64 h3, near64 h4, near64 h5, near64 h6, near64 h7, near64 h8, near64 h9, near64 h10, near64 h11⟩
theorem fit_word (h : e.Near) (hv : i64r v) : Ev.Fit { e with word := v } := by
  obtain ⟨h1, h2, h3, h4, h5, h6, h7, h8, h9, h10, h11⟩ := h.all
  exact fit64 rfl ⟨near64 h1, near64 h2, near64 h3, hv, near64 h5, near64 h6, near64 h7, near64 h8, near64 h9, near64 h10, near64 h11⟩
theorem fit_keep (h : e.Near) (hv : i64r v) : Ev.Fit { e with keep := v } := by
  obtain ⟨h1, h2, h3, h4, h5, h6, h7, h8, h9, h10, h11⟩ := h.all
  exact fit64 rfl ⟨near64 h1, near64 h2, near64 h3, near64 h4, hv, near64 h6, near64 h7, near64 h8, near64 h9, near64 h10, near64 h11⟩
theorem fit_call (h : e.Near) (hv : i64r v) : Ev.Fit { e with call := v } := by
  obtain ⟨h1, h2, h3, h4, h5, h6, h7, h8, h9, h10, h11⟩ := h.all
  exact fit64 rfl ⟨near64 h1, near64 h2, near64 h3, near64 h4, near64 h5, near64 h6, hv, near64 h8, near64 h9, near64 h10, near64 h11⟩
theorem fit_a (h : e.Near) (hv : i64r v) : Ev.Fit { e with a := v } := by
  obtain ⟨h1, h2, h3, h4, h5, h6, h7, h8, h9, h10, h11⟩ := h.all
  exact fit64 rfl ⟨near64 h1, near64 h2, near64 h3, near64 h4, near64 h5, near64 h6, near64 h7, hv, near64 h9, near64 h10, near64 h11⟩
end
def riseE : Ev := ⟨7, 0, 0, 0, 0, 0, 0, 0, 0, 0, 0⟩
theorem riseE_fit : riseE.Fit := (fit_mk : Ev.Near ⟨7, 0, 0, 0, 0, 0, 0, 0, 0, 0, 0⟩).fit
theorem elt2_near {i : Nat} : i64r (elt [0, 10] i) := by
  unfold i64r
  match i with
  | 0 => decide
  | 1 => decide
  | k + 2 => exact (by decide : -9223372036854775808 ≤ (0 : Int) ∧ (0 : Int) ≤ 9223372036854775807)
theorem elt3b_near {i : Nat} : i64r (elt [-1, 99999, 100000] i) := by
  unfold i64r
  match i with
  | 0 => decide
  | 1 => decide
  | 2 => decide
  | k + 3 => exact (by decide : -9223372036854775808 ≤ (0 : Int) ∧ (0 : Int) ≤ 9223372036854775807)
theorem neckW_len (l : List Ev) : (neckW [] l).length ≤ 60000 := by
  by_cases h : neckW [] l = []
  · rw [h]; simp
  · exact (read_written l h).2
theorem c_impl_NeckRead (s : List UInt8) (hl : s.length ≤ 1048576) :
    FnE Tryz.prog 8 [AV.tab4 (AV.text s)] [] (fun _ : Value => True) (fun v => [Own.row v 50 11 ((readAll s).1.map Ev.cells)]) (fun v => AV.tup [AV.val v, AV.int (readAll s).2]) := by
 refine FnE.intro 37 Tryz.func8 rfl Tryz.ntmps8 rfl (by kernel_rfl) (fun W I a hs => ?_)
 have hsl := splitB_len 10 s
 refine sr <| hs.sc fun hs => hs.sc fun hs => nn <| wp_seq <| sr <| hs.o (ok_move (.untab4 rfl)) fun hs => hs.o (ok_lenT un9 .tt) fun hs => hs.o .gtrc fun hs => nn ?_
 refine hs.cd (fun hb1 => ?_) fun hb1 => ?_
 ·try simp only [B] at hb1
  refine sr <| hs.sc fun hs => hs.sc fun hs => nn <| wp_ret <| then_r ?_
  have hs := hs.ownNil (sz := 11) 50
  have e9 : readAll s = ([], -1) := by unfold readAll; rw [if_pos (by omega)]
  refine hs.retE (.slice none 0 0) [0] rfl (.cons (.t rfl) (.cons (.t rfl) .nil)) trivial (by rw [e9]; rfl) (by rw [e9]; rfl)
 ·try simp only [B] at hb1
  refine wp_skip <| then_n <| sr <| hs.sc fun hs => ?_
  have hs := hs.ownNil (sz := 11) 50
  refine nn <| wp_seq <| sr <| hs.o (ok_move (.untab4 rfl)) fun hs => hs.o (ok_call (c_strings_Split _ 10 hl) (args_cons (.tab4 (t := 0) rfl .tt) (args_cons .c args_nil))) fun hs => ?_
  refine hs.o .ln fun hs => ?_
  refine hs.mc fun hs => nn <| wp_block ?_
  refine St.lo (σ := Nat × List Ev × Value) (run 7 2 (run 21 15 [])) ⟨fun ⟨k, out, v⟩ => [(15, AV.int k), (4, AV.val v)], fun ⟨k, out, v⟩ => [Own.row v 50 11 (out.map Ev.cells)], fun ⟨k, out, v⟩ => k ≤ (splitB 10 s).length ∧ readAll s = readGo out k ((splitB 10 s).drop k) ∧ out.length ≤ k⟩ (fun ⟨k, out, v⟩ => (splitB 10 s).length - k) (0, [], .slice none 0 0) hs ?ok1 ?round1
  case ok1 => exact ⟨by simp, by unfold readAll; rw [if_neg (by omega)]; rfl, by simp⟩
  case round1 =>
   rintro ⟨k, out, v⟩ I a w hok hs
   obtain ⟨hk, he, hol⟩ := hok
   change St _ _ [Own.row v 50 11 (out.map Ev.cells)] _ _ _ at hs
   refine sr <| hs.o .lss fun hs => nn <| wp_seq ?_
   refine hs.cd (fun hb2 => ?_) fun hb2 => ?_
   ·try simp only [B] at hb2
    refine wp_skip <| then_n <| wp_seq <| wp_block <| sr <| hs.m fun hs => ?_
    refine hs.o .ix fun hs => ?_
    refine hs.o .l1 fun hs => hs.s fun hs => hs.s fun hs => nn <| wp_seq <| sr <| hs.m fun hs => hs.o (ok_eqT .tt .c) fun hs => nn ?_
    refine hs.cd (fun hb3 => ?_) fun hb3 => ?_
    ·try simp only [B] at hb3
     refine wp_exit <| then_x <| block_hit <| then_n <| St.region ?_
     refine hs.o .ad fun hs => ?_
     refine hs.m fun hs => nn ?_
     exact hs.ag (k + 1, out, v) (by first | exact ⟨hb2, by rw [he, drop_elt hb2, readGo, if_pos hb3], by omega⟩ | exact ⟨hb2, by rw [he, drop_elt hb2, readGo, if_neg hb3, if_pos hb4], by simp; omega⟩)
    ·try simp only [B] at hb3
     refine wp_skip <| then_n <| sr <| hs.m fun hs => ?_
     refine hs.o (ok_call (c_impl_readEvent _ (by have := splitB_elt 10 s _ (elt_memT hb2); omega)) (args_cons (.tab4 (t := 0) rfl (.t rfl)) args_nil)) fun hs => ?_
     refine hs.m fun hs => ?_
     refine hs.o .e fun hs => hs.o .e fun hs => hs.alloc rfl ty50 zc50 fun b7 I a w hs => ?_
     refine hs.sb 1 fun hs => ?_
     obtain ⟨I, hs, hf⟩ := hs.freezeBox 1 rfl
     have hs := hs.upd (t := 7) rfl hf; clear hf
     refine hs.s fun hs => nn <| wp_seq <| sr <| hs.m fun hs => hs.o .nt fun hs => nn ?_
     refine hs.cd (fun hb4 => ?_) fun hb4 => ?_
     ·rw [Bool.not_eq_true'] at hb4
      refine sr <| hs.m fun hs => ?_
      refine hs.o .ad fun hs => ?_
      refine hs.sc fun hs => hs.s fun hs => nn <| wp_ret <| then_r <| block_r <| then_r <| then_r <| block_r <| then_r ?_
      have e9 : readAll s = ([], (k : Int) + 1) := by rw [he, drop_elt hb2, readGo, if_neg hb3, if_neg (by rw [hb4]; simp)]
      have hs := hs.ownNil (sz := 11) 50
      refine hs.retE (.slice none 0 0) [2] rfl (.cons (.t rfl) (.cons (.t rfl) .nil)) trivial (by rw [e9]; rfl) (by rw [e9]; rfl)
     ·rw [Bool.not_eq_false'] at hb4
      refine wp_skip <| then_n <| St.region <| hs.m fun hs => ?_
      refine hs.o .la fun hs => ?_
      refine hs.o (ok_litAll (lxs := [_]) un24 ty50 rfl zo50 rfl rfl (Parts.s rfl rfl rfl .tt Parts.nil) rfl (by simp only [List.forall_mem_cons]; exact ⟨rfl, fun _ h => by simp at h⟩)) fun hs => ?_
      refine hs.append 0 rfl un24 ty50 rfl .tt .r rfl (by simp; omega) fun v34 a w hs => ?_
      change St _ _ [Own.row v34 50 11 (out.map Ev.cells ++ [((readB (elt (splitB 10 s) k)).getD default).cells]), Own.gone] _ _ _ at hs
      rw [snoc_ev] at hs
      refine hs.s fun hs => ?_
      have hs := hs.ownNil (sz := 11) 50
      refine wpList_nil <| block_n <| then_n <| St.region ?_
      refine hs.o .ad fun hs => ?_
      refine hs.m fun hs => nn ?_
      have hs := hs.drop 1
      exact hs.ag (k + 1, out ++ [(readB (elt (splitB 10 s) k)).getD default], v34) (by first | exact ⟨hb2, by rw [he, drop_elt hb2, readGo, if_pos hb3], by omega⟩ | exact ⟨hb2, by rw [he, drop_elt hb2, readGo, if_neg hb3, if_pos hb4], by simp; omega⟩)
   ·try simp only [B] at hb2
    refine wp_exit <| then_x <| then_x <| block_hit <| then_n <| sr <| hs.m fun hs => hs.s fun hs => hs.sc fun hs => nn <| wp_ret ?_
    have e9 : readAll s = (out, 0) := by rw [he, List.drop_eq_nil_of_le (by omega)]; rfl
    refine hs.retE v [0] rfl (.cons (.t rfl) (.cons (.t rfl) .nil)) trivial (by rw [e9]; rfl) (by rw [e9]; rfl)
theorem readGo_len : ∀ (ls : List (List UInt8)) (out : List Ev) (k : Nat), (readGo out k ls).1.length ≤ out.length + ls.length
  | [], out, k => by simp [readGo]
  | ln :: ls, out, k => by
    unfold readGo
    split
    · have := readGo_len ls out (k + 1); simp; omega
    · split
      · have := readGo_len ls (out ++ [(readB ln).getD default]) (k + 1); simp at this ⊢; omega
      · simp
theorem readAll_len {s : List UInt8} (h : s.length ≤ 1048576) : (readAll s).1.length ≤ 1048577 := by
  unfold readAll
  split
  · simp
  · have h1 := readGo_len (splitB 10 s) [] 0
    have h2 := splitB_len 10 s
    simp at h1; omega
theorem c_laws_liHappens (x y : List Ev) (hx : x.length ≤ 4611686018427387904) :
    Fn Tryz.prog 9 [evsAV x, evsAV y] (AV.bool (decide (x = y))) := by
 refine Fn.intro 26 Tryz.func9 rfl Tryz.ntmps9 rfl (by kernel_rfl) (fun W I a hs => ?_)
 refine sr <| hs.sc fun hs => nn <| wp_seq <| sr <| hs.m fun hs => ?_
 refine hs.o .ln fun hs => ?_
 refine hs.m fun hs => ?_
 refine hs.o .ln fun hs => ?_
 refine hs.o .nei fun hs => nn ?_
 refine hs.cd (fun hb1 => ?_) fun hb1 => ?_
 ·try simp only [B] at hb1
  refine sr <| hs.sc fun hs => nn <| wp_ret <| then_r ?_
  refine hs.rt ?_
  exact ret_bool (decide_eq_false fun e => hb1 (by rw [e])).symm
 ·try simp only [B] at hb1
  refine wp_skip <| then_n <| wp_seq <| sr <| hs.sc fun hs => nn <| wp_block ?_
  refine St.lo (σ := Nat) (run 2 4 (run 15 11 [])) ⟨fun k => [(5, AV.int k)], fun k => [], fun k => k ≤ x.length ∧ ∀ i, i < k → elt x i = elt y i⟩ (fun k => x.length - k) 0 hs ?ok1 ?round1
  case ok1 => exact ⟨Nat.zero_le _, fun i hi => by omega⟩
  case round1 =>
   rintro k I a w hok hs
   obtain ⟨hk, heq⟩ := hok
   refine wp_seq <| sr <| hs.m fun hs => hs.m fun hs => ?_
   refine hs.o .ln fun hs => ?_
   refine hs.o .lss fun hs => nn ?_
   refine hs.cd (fun hb2 => ?_) fun hb2 => ?_
   ·try simp only [B] at hb2
    refine wp_skip <| then_n <| wp_seq <| wp_block <| wp_seq <| hs.dk <| .o .mv <| .o .mv ?_
    refine .o .ix ?_
    refine .o .la ?_
    refine .o .mv <| .o .mv ?_
    refine .o .ix ?_
    refine .o .la ?_
    refine .o (ok_neS (elt x k).ints (elt y k).ints eqt50 rfl rfl .tt .tt) <| .nil ?_
    intro I a w hs
    refine then_n ?_
    refine hs.cd (fun hb3 => ?_) fun hb3 => ?_
    ·try simp only [B] at hb3
     refine sr <| hs.sc fun hs => nn <| wp_ret <| block_r <| then_r <| then_r <| block_r <| then_r ?_
     refine hs.rt ?_
     exact ret_bool (decide_eq_false fun e => hb3 (by rw [e])).symm
    ·try simp only [B] at hb3
     refine wp_skip <| block_n <| then_n <| St.region <| hs.m fun hs => ?_
     refine hs.o .ad fun hs => ?_
     refine hs.s fun hs => nn ?_
     exact hs.ag (k + 1) (⟨hb2, fun i hi => by rcases (by omega : i < k ∨ i = k) with h | rfl; exact heq i h; exact Ev.ints_inj hb3⟩)
   ·try simp only [B] at hb2
    refine wp_exit <| then_x <| then_x <| block_hit <| then_n <| sr <| hs.sc fun hs => nn <| wp_ret ?_
    refine hs.rt ?_
    exact ret_bool (decide_eq_true (elts_eq (by omega) fun i hi => heq i (by omega))).symm
theorem parseB_hi (s : List UInt8) : parseB s ≤ 99999 := by
  rcases Int.lt_or_le (parseB s) 0 with h | h
  · omega
  · have e := parse_dec (parseB s)
    rw [parse_back h] at e
    split at e
    · rename_i hw; unfold written inB at hw; simp at hw; exact hw.2
    · omega
theorem readEv_fit {k : Nat} {n : List Int} {e : Ev} (hk : k < 13) (hn : ∀ x ∈ n, 0 ≤ x ∧ x ≤ 99999) (h : readEv k n = some e) : e.Fit := by
  have g : ∀ i, 0 ≤ n.getD i 0 ∧ n.getD i 0 ≤ 99999 := fun i => by
    rw [List.getD_eq_getElem?_getD]
    cases hi : n[i]? with
    | none => simp
    | some x => exact hn x (List.mem_of_getElem? hi)
  have g0 := g 0
  have g1 := g 1
  have g2 := g 2
  have g3 := g 3
  have d0 : (default : Ev) = ⟨0, 0, 0, 0, 0, 0, 0, 0, 0, 0, 0⟩ := rfl
  unfold readEv at h
  simp only [d0] at h
  repeat' split at h
  all_goals first
    | (cases h; done)
    | (cases h; intro x hx; simp only [Ev.ints, List.mem_cons, List.not_mem_nil, or_false] at hx; unfold i64r; omega)
theorem readB_fit {s : List UInt8} {e : Ev} (h : readB s = some e) : e.Fit := by
  unfold readB at h
  dsimp only at h
  split at h
  · rename_i ha
    obtain ⟨k, h1, h2⟩ := Option.bind_eq_some_iff.1 h
    refine readEv_fit (place_some h1).2.1 (fun x hx => ⟨by have := List.all_eq_true.1 ha x hx; simpa using this, ?_⟩) h2
    obtain ⟨y, _, rfl⟩ := List.mem_map.1 hx
    exact parseB_hi y
  · cases h
theorem evs_fit : ∀ {ls : List (List UInt8)} {l : List Ev}, evsOf ls = some l → ∀ e ∈ l, e.Fit
  | [], l, h, e, he => by cases h; simp at he
  | ln :: r, l, h, e, he => by
    unfold evsOf at h
    split at h
    · exact evs_fit h e he
    · split at h
      · cases h
      · rename_i x hx
        obtain ⟨ys, hy, rfl⟩ := Option.map_eq_some_iff.1 h
        rcases List.mem_cons.1 he with rfl | he
        · exact readB_fit hx
        · exact evs_fit hy e he
theorem readAll_fit (s : List UInt8) : ∀ e ∈ (readAll s).1, e.Fit := fun e he => by
  by_cases h : (readAll s).2 = 0
  · exact evs_fit (readAll_zero h).2 e he
  · rw [(readAll_bad h).1] at he; simp at he
end Go.Proofs.YtkoebplikhlapaaGreatDoor
set_option linter.unusedVariables false
set_option linter.unusedSimpArgs false
namespace Go.Proofs.YtkoebplikhlapaaGreatDoor
open Go Go.RowKit Go.ChangeShapes Go.WideShapes Go.ChangeAt
section
variable {H : Type} {enc : TypeId × Value → H} {P : Program}
def memI (W : World) : Im := fun b => match W.heap[b]? with
  | some (.cells cs _ _) => some cs
  | _ => none
theorem memI_models (W : World) : Models W (memI W) := fun b cs e => by
  unfold memI at e
  split at e
  · rename_i cs' T fr h; cases e; exact ⟨T, fr, h⟩
  · cases e
theorem memI_at {W : World} {b : Nat} {cs : Array Value} {T : TypeId} {fr : Nat × Nat} (h : W.heap[b]? = some (.cells cs T fr)) : memI W b = some cs := by unfold memI; rw [h]
theorem cell_heap {W : World} {a : Addr} {v : Value} (h : W.cell? a = some v) : a.spot = none ∧ ∃ cs T fr, W.heap[a.block]? = some (.cells cs T fr) ∧ cs[a.off]? = some v := by
  have hs := World.cell?_spot h
  refine ⟨hs, ?_⟩
  unfold World.cell? at h
  rw [hs] at h
  split at h
  · rename_i cs T fr he; exact ⟨cs, T, fr, he, by simpa using h⟩
  · simp at h
theorem cells_take {W : World} {base : Nat} {a : Addr} {n : Nat} {cs' : List Value} {cs : Array Value} {T : TypeId} {fr : Nat × Nat} (h : W.cells? base a n = some cs') (ha : W.heap[a.block]? = some (.cells cs T fr)) : (cs.toList.drop a.off).take n = cs' := by
  obtain ⟨_, hl, hc⟩ := World.cells?_some h
  apply List.ext_getElem?
  intro i
  rw [List.getElem?_take]
  split
  · rename_i hi
    rw [← hc i hi, List.getElem?_drop]
    obtain ⟨v, hv⟩ : ∃ v, cs'[i]? = some v := ⟨cs'[i]'(by omega), by simp [hl, hi]⟩
    obtain ⟨_, cs2, T2, fr2, h2, h3⟩ := cell_heap ((hc i hi).trans hv)
    have hb : (a.add i).block = a.block := by unfold Addr.add; split <;> rfl
    have ho : (a.add i).off = a.off + i := by unfold Addr.add; split <;> simp_all
    rw [hb, ha] at h2
    cases h2
    rw [hc i hi, hv, ← ho]
    simpa using h3
  · rename_i hi
    rw [List.getElem?_eq_none (by omega)]
theorem post_of_below {f : Func} {s : ChangeSpec} {apart fresh handsOn again : Bool} {W W' : World} {args : Array Value} {v : Value} {ds gs : List (DataW H)} {before pa pv : List MemPlace}
    (hW : DataW.Whole enc P f.params.toList s.vars apart W args.toList ds gs before)
    (hres : ∀ (b : Nat) (sp : Nat → Bool) (hd : Bool), DataW.TrodAll enc P W' b sp hd f.resultTypes.toList (v.resultList f.resultTypes.size) (s.fn H (ds ++ gs)).results [])
    (hargs : ∀ sp : Nat → Bool, (∀ p ∈ before, sp p.block = true) → DataW.TrodAll enc P W' 0 sp true f.params.toList args.toList (s.fn H (ds ++ gs)).args pa)
    (hvars : ∀ sp : Nat → Bool, (∀ p ∈ before, sp p.block = true) → DataW.TrodVars enc P W' sp s.vars (s.fn H (ds ++ gs)).vars pv)
    (hps : before = pa ++ pv) (hb : Below W.heap.size W W')
    (hok : ∀ (j : Nat) (t : TypeId) (r : Value), f.resultTypes[j]? = some t → (v.resultList f.resultTypes.size)[j]? = some r → Value.okWide P W' .any 0 t r) :
    s.post enc P f apart fresh handsOn again W args v W' := by
  have hlt := fun p hp => hW.lt p hp
  have hold : ∀ p ∈ before, (fun b => decide (b < W.heap.size)) p.block = true := fun p hp => by simpa using hlt p hp
  refine ⟨ds, gs, before, [], pa, pv, hW, hres _ _ _, hargs _ hold, hvars _ hold, World.keptBut_mono (fun p hp => ⟨hp, ?_⟩) (hb.frame (· ∈ before)), fun _ => ?_⟩
  · rw [hps, List.mem_append] at hp
    exact Or.inr hp
  · obtain ⟨_, _, _, _, _, hz, hn⟩ := hW
    refine ⟨hok, _, _, ([] ++ pa) ++ pv, ⟨[] ++ pa, pv, ChangeShapes.trodAll_append (hargs _ (fun _ _ => rfl)) (hres _ _ _), hvars _ (fun _ _ => rfl), rfl, ?_, ?_⟩, ?_⟩
    · intro b off hp
      have hp' : MemPlace.cell b off ∈ before := by rw [hps]; simpa using hp
      rw [hb.frozen (p := ⟨b, off, none⟩) (hlt _ hp')]
      exact hz b off hp'
    · intro ha
      have := hn ha
      rw [hps] at this
      simpa using this
    · intro p hp _
      rw [hps]
      simpa using hp
end
section
variable {H : Type} {enc : TypeId × Value → H} {P : Program} {W : World}
def Opens {α : Type} (enc : TypeId × Value → H) (P : Program) (W : World) (cf : α → List AV) (Fit : α → Prop) (t : TypeId) : Prop :=
  ∀ n cs x, DataW.trod enc P W 0 (fun _ => true) true n t cs = some x → ∃ y : α, HoldsL (memI W) (cf y) cs ∧ Fit y
def fieldB (fs : Array Field) (i ft off : Nat) : Bool := match fs[i]? with
  | some f => f.type == ft && f.offset == off
  | none => false
theorem part {α : Type} {cf : α → List AV} {Fit : α → Prop} {fs : Array Field} {m i ft off s : Nat} {cs : List Value} {xs : List (DataW H × List MemPlace)} (ho : Opens enc P W cf Fit ft) (hl : xs.length = fs.size)
    (hf : ∀ (i : Nat) (f : Field), fs[i]? = some f → DataW.trod enc P W 0 (fun _ => true) true m f.type ((cs.drop f.offset).take (P.cellsOf f.type)) = xs[i]?) (hb : fieldB fs i ft off = true) (hs : P.cellsOf ft = s) :
    ∃ y : α, HoldsL (memI W) (cf y) ((cs.drop off).take s) ∧ Fit y := by
  unfold fieldB at hb
  split at hb
  · rename_i f hfi
    rw [Bool.and_eq_true, beq_iff_eq, beq_iff_eq] at hb
    have hi : i < fs.size := (Array.getElem?_eq_some_iff.1 hfi).1
    have := hf i f hfi
    rw [List.getElem?_eq_getElem (by omega), hb.1, hb.2, hs] at this
    exact ho _ _ _ this
  · cases hb
theorem opens_rows {α : Type} [Inhabited α] {cf : α → List AV} {Fit : α → Prop} {sz : Nat} {t e : TypeId} (hu : P.underlying t = some (.slice e)) (hc : P.cellsOf e = sz) (h0 : 0 < sz) (hsz : ∀ y, (cf y).length = sz) (ho : Opens enc P W cf Fit e) :
    Opens enc P W (fun l : List α => [AV.rows sz (l.map cf)]) (fun l => ∀ y ∈ l, Fit y) t := fun n cs x h => by
  rcases Deep.open_slice hu h with ⟨rfl, _⟩ | ⟨a, len, cap, m, n, D, Pl, rfl, _, hlc, hcm, hm, _, hel⟩
  · exact ⟨[], ⟨⟨rows_nil _ _, rfl⟩, trivial⟩, by simp⟩
  · have hle : len ≤ m := by rw [hm]; split <;> omega
    rw [hc] at hel
    have ch : ∀ i : Nat, ∃ y : α, i < len → (∃ cs', W.cells? 0 (a.add (i * sz)) sz = some cs' ∧ HoldsL (memI W) (cf y) cs') ∧ Fit y := fun i => by
      by_cases hi : i < len
      · obtain ⟨cs', h1, h2⟩ := hel i (by omega)
        obtain ⟨y, hy, hf⟩ := ho _ _ _ h2
        exact ⟨y, fun _ => ⟨⟨cs', h1, hy⟩, hf⟩⟩
      · exact ⟨default, fun h => absurd h hi⟩
    let g : Nat → α := fun i => (ch i).choose
    have hg : ∀ i, i < len → (∃ cs', W.cells? 0 (a.add (i * sz)) sz = some cs' ∧ HoldsL (memI W) (cf (g i)) cs') ∧ Fit (g i) := fun i => (ch i).choose_spec
    have hrl : ∀ r ∈ ((List.range len).map g).map cf, r.length = sz := fun r hr => by
      simp only [List.map_map, List.mem_map] at hr
      obtain ⟨i, _, rfl⟩ := hr; exact hsz _
    refine ⟨(List.range len).map g, ⟨⟨⟨some a, cap, by simp, by simpa using hlc, hcm, hrl, ?_, (fun h => by cases h)⟩, rfl⟩, trivial⟩, ?_⟩
    · rcases Nat.eq_zero_or_pos len with hz | hpos
      · left; rw [hz]; rfl
      · right
        obtain ⟨⟨cs0, hcs0, hh0⟩, _⟩ := hg 0 hpos
        obtain ⟨_, hl0, hc0⟩ := World.cells?_some hcs0
        have hc00 := hc0 0 (by omega)
        obtain ⟨u, hu0⟩ : ∃ u, cs0[0]? = some u := ⟨_, List.getElem?_eq_getElem (by omega)⟩
        rw [hu0] at hc00
        obtain ⟨hspot, cs, T, fr, hb, _⟩ := cell_heap hc00
        have hab : ((a.add (0 * sz)).add 0) = a := by simp [Addr.add]
        rw [hab] at hb hspot
        refine ⟨a, rfl, hspot, cs, memI_at hb, ?_⟩
        have key : ∀ k, k ≤ len → HoldsL (memI W) (((List.range k).map g).map cf).flatten ((cs.toList.drop a.off).take (k * sz)) := by
          intro k
          induction k with
          | zero => intro _; simp [HoldsL]
          | succ k ih =>
            intro hk
            have h1 := ih (by omega)
            obtain ⟨⟨cs', hcs', hh'⟩, _⟩ := hg k (by omega)
            have hbk : (a.add (k * sz)).block = a.block := by unfold Addr.add; split <;> rfl
            have hok' : (a.add (k * sz)).off = a.off + k * sz := by unfold Addr.add; split <;> simp_all
            have h2 := cells_take hcs' (by rw [hbk]; exact hb)
            rw [hok'] at h2
            rw [List.range_succ, List.map_append, List.map_append, List.flatten_append, Nat.succ_mul]
            have e3 : (cs.toList.drop a.off).take (k * sz + sz) = (cs.toList.drop a.off).take (k * sz) ++ cs' := by
              rw [← h2, ← List.drop_drop, List.take_add]
            rw [e3]
            refine h1.append ?_
            simpa using hh'
        have := key len (Nat.le_refl _)
        have hlen : (((List.range len).map g).map cf).flatten.length = len * sz := by
          rw [flatten_length hrl]
          simp
        rwa [hlen]
    · intro y hy
      obtain ⟨i, hi, rfl⟩ := List.mem_map.1 hy
      exact (hg i (by simpa using hi)).2
end
section
variable {H : Type} {enc : TypeId × Value → H} {P : Program} {W : World}
theorem one_cells {v : Value} (h : ∀ cs, v ≠ .agg cs) : v.cells.toList = [v] := by
  cases v <;> first | rfl | exact absurd rfl (h _)
theorem arg_one {α : Type} {cf : α → AV} {Fit : α → Prop} {t base : Nat} {v : Value} {d : DataW H} {ps : List MemPlace} (ho : Opens enc P W (fun y => [cf y]) Fit t) (hne : ∀ cs, v ≠ .agg cs) (h : DataW.Trod enc P W 0 (fun _ => true) true t v d ps) :
    ∃ y, (cf y).h (memI W) v ∧ Fit y := by
  obtain ⟨fuel, h⟩ := h
  rw [one_cells hne] at h
  obtain ⟨y, hy, hf⟩ := ho _ _ _ h
  exact ⟨y, hy.1.1, hf⟩
theorem noagg_slice {t base e : Nat} {v : Value} (hu : P.underlying t = some (.slice e)) (hok : Value.okWide P W .any base t v) : ∀ cs, v ≠ .agg cs := by
  rintro cs rfl
  simp [Value.okWide, hu, Cell.okWide, Cell.ok] at hok
end
def Stamp.Deep (s : Stamp) : Prop := i64r s.time ∧ i64r s.site
def Dep.Deep (d : Dep) : Prop := i64r d.key ∧ d.stamp.Deep
def Ver.Deep (v : Ver) : Prop := i64r v.key ∧ v.stamp.Deep ∧ i64r v.val ∧ i64r v.client ∧ i64r v.call ∧ ∀ d ∈ v.deps, d.Deep
def Word.Deep (m : Word) : Prop := i64r m.kind ∧ i64r m.frm ∧ i64r m.to ∧ i64r m.call ∧ i64r m.key ∧ m.stamp.Deep ∧ i64r m.val ∧ True ∧ (∀ d ∈ m.deps, d.Deep) ∧ i64r m.slot ∧ i64r m.epoch ∧ (∀ v ∈ m.vers, v.Deep) ∧ (∀ v ∈ m.waits, v.Deep) ∧ ∀ d ∈ m.owes, d.Deep
def Slot.Deep (s : Slot) : Prop := i64r s.epoch ∧ i64r s.stand
def Server.Deep (s : Server) : Prop := i64r s.site ∧ True ∧ (∀ x ∈ s.slots, x.Deep) ∧ (∀ v ∈ s.vers, v.Deep) ∧ (∀ v ∈ s.waits, v.Deep) ∧ (∀ d ∈ s.owes, d.Deep) ∧ ∀ d ∈ s.knows, d.Deep
def Answer.Deep (a : Answer) : Prop := i64r a.key ∧ True ∧ a.ver.Deep
def Call.Deep (k : Call) : Prop := i64r k.client ∧ i64r k.num ∧ i64r k.kind ∧ (∀ n ∈ k.keys, i64r n) ∧ i64r k.val ∧ (∀ d ∈ k.ctx, d.Deep) ∧ i64r k.begin_ ∧ i64r k.end_ ∧ True ∧ k.stamp.Deep ∧ (∀ a ∈ k.got, a.Deep) ∧ ∀ d ∈ k.needs, d.Deep
def Neck.Deep (w : Neck) : Prop := i64r w.time ∧ (∀ s ∈ w.servers, s.Deep) ∧ (∀ m ∈ w.radio, m.Deep) ∧ (∀ k ∈ w.calls, k.Deep) ∧ ∀ l ∈ w.seen, ∀ d ∈ l, d.Deep
def Ev.Deep (e : Ev) : Prop := i64r e.kind ∧ i64r e.at_ ∧ i64r e.client ∧ i64r e.word ∧ i64r e.keep ∧ i64r e.slot ∧ i64r e.call ∧ i64r e.a ∧ i64r e.b ∧ i64r e.c ∧ i64r e.val
end Go.Proofs.YtkoebplikhlapaaGreatDoor
set_option linter.unusedVariables false
set_option linter.unusedSimpArgs false
set_option maxRecDepth 100000
namespace Go.Proofs.YtkoebplikhlapaaGreatDoor
open Go Go.RowKit
open Go.ChangeShapes Go.WideShapes Go.ChangeAt
theorem own : ownKnob Tryz.prog.godebug = none := by kernel_rfl
theorem laidOut : laidOutB Tryz.prog = true := by kernel_rfl
theorem gTabType : (Tryz.prog.globals[tabB]?).map (·.type) = some 156 := by kernel_rfl
theorem cellsT : Tryz.prog.cellsOf 156 = 20 := by kernel_rfl
theorem cellsU : Tryz.prog.cellsOf 120 = 1 := by kernel_rfl
section
variable {P : Program} {H : Type} {enc : TypeId × Value → H} {W : World}
theorem opens_byte {t : TypeId} (ht : P.underlying t = some (.int .u8)) : Opens enc P W byteCell (fun _ => True) t := fun n cs x h => by
  obtain ⟨k, rfl, _, hw⟩ := DataW.trod_int ht h
  simp only [Lit.wf, Bool.and_eq_true, decide_eq_true_eq] at hw
  have h0 : 0 ≤ k := hw.1
  have h1 : k ≤ 255 := hw.2
  refine ⟨UInt8.ofNat k.toNat, ⟨⟨?_, rfl⟩, trivial⟩, trivial⟩
  show Value.int .u8 k = Value.int .u8 ((UInt8.ofNat k.toNat).toNat : Int)
  rw [UInt8.toNat_ofNat']
  congr 1
  omega
end
theorem opens_bytes {H : Type} {enc : TypeId × Value → H} {W : World} : Opens enc Tryz.prog W (fun l : List UInt8 => [bytesAV l]) (fun l => ∀ y ∈ l, True) 22 :=
  opens_rows (t := 22) (sz := 1) (cf := byteCell) (by kernel_rfl) (by kernel_rfl) (by decide) (fun _ => rfl) (opens_byte (t := 5) (by kernel_rfl))
theorem trod_iface {P : Program} {W : World} {sp : Nat → Bool} {fuel : Nat} {t : TypeId} {ms : Array (String × TypeId)} {cs : List Value} {n : String} {d : DataW Unit} {p : List MemPlace} (ht : P.underlying t = some (.interface ms)) (h : DataW.trod (fun _ => ()) P W 0 sp false fuel t cs = some (.iface n d, p)) : ∃ u v, cs = [.iface u v] := by
  cases fuel with
  | zero => simp [DataW.trod] at h
  | succ k =>
    unfold DataW.trod at h
    rw [ht] at h
    split at h <;> simp_all
theorem sentinel {W : World} {n m : String} {d : DataW Unit} {g : Nat} (hg : Tryz.prog.globalNamed n = some g) (hty : (Tryz.prog.globals[g]?).map (·.type) = some 61) (h : laidMet Tryz.prog [(n, .iface m d)] W) : ∃ cs t p, memI W g = some cs ∧ cs[0]? = some (.iface t p) := by
  obtain ⟨ps, ⟨g', t', cs, fuel, p, q, hg', ht', hvar, hd, _, _⟩, _⟩ := h
  obtain rfl := Option.some.inj (hg.symm.trans hg')
  obtain rfl := Option.some.inj (hty.symm.trans ht')
  obtain ⟨u, v, e⟩ := trod_iface Tryz.underlying61 hd
  unfold World.var? at hvar
  rw [hg] at hvar
  simp only [Option.bind_some] at hvar
  split at hvar
  · rename_i cs' T fr hb
    cases hvar
    exact ⟨_, u, v, memI_at hb, by rw [← Array.getElem?_toList, e]; rfl⟩
  · cases hvar
def setRow (cs : Array Value) : Obj → Obj
  | .cells _ t frozen => .cells cs t frozen
  | o => o
def allCells : DataW Unit → Array Value
  | .agg l => (l.flatMap fun d => match d with
    | .lit (.int k n) => [Value.int k n]
    | .agg m => m.filterMap fun x => match x with
      | .lit (.int k n) => some (Value.int k n)
      | _ => none
    | _ => []).toArray
  | _ => #[]
abbrev rngS : ByteArray := { data := #[118, 97, 108, 117, 101, 32, 111, 117, 116, 32, 111, 102, 32, 114, 97, 110, 103, 101] }
abbrev synS : ByteArray := { data := #[105, 110, 118, 97, 108, 105, 100, 32, 115, 121, 110, 116, 97, 120] }
noncomputable def low : Nat := (World.holding Tryz.prog default ⟨#[], #[], []⟩).heap.size
noncomputable def laidWorld (os : Os) : World :=
  let w0 := World.holding Tryz.prog os ⟨#[.cells #[.string synS] 154, .cells #[.string rngS] 154], #[], []⟩
  { w0 with heap := (((((((w0.heap.modify 6 (setRow (allCells Rows.laid_math_bits_deBruijn32tab))).modify 7 (setRow (allCells Rows.laid_math_bits_deBruijn64tab))).modify 5 (setRow tabC)).modify 4 (setRow (allCells Rows.laid_unicode_utf8_acceptRanges))).modify 3 (setRow (allCells Rows.laid_unicode_utf8_first))).modify 1
      (setRow #[.iface 152 (.pointer (some ⟨low, 0, none⟩))])).modify 2 (setRow #[.iface 152 (.pointer (some ⟨low + 1, 0, none⟩))])) }
end Go.Proofs.YtkoebplikhlapaaGreatDoor
