/- Part 43: rules of the proofs, contracts of functions, plain facts. -/
import Derived.Test.YtkoebplikhlapaaGreatDoorP42
set_option linter.unusedVariables false
set_option linter.unusedSimpArgs false
set_option maxRecDepth 100000
namespace Go.Proofs.YtkoebplikhlapaaGreatDoor
open Go Go.RowKit
def readGo (out : List Ev) (k : Nat) : List (List UInt8) → List Ev × Int
  | [] => (out, 0)
  | ln :: r => if ln = [] then readGo out (k + 1) r else if (readB ln).isSome = true then readGo (out ++ [(readB ln).getD default]) (k + 1) r else ([], (k : Int) + 1)
def readAll (s : List UInt8) : List Ev × Int := if 60000 < s.length then ([], -1) else readGo [] 0 (splitB 10 s)
theorem splitB_elt (c : UInt8) : ∀ (s : List UInt8), ∀ p ∈ splitB c s, p.length ≤ s.length
  | [], p, h => by simp [splitB] at h; subst h; simp
  | x :: r, p, h => by
    have ih := splitB_elt c r
    unfold splitB at h
    split at h
    · rcases List.mem_cons.1 h with rfl | h
      · simp
      · have := ih p h; simp; omega
    · split at h
      · simp at h; subst h; simp
      · rename_i y t hy
        rw [hy] at ih
        rcases List.mem_cons.1 h with rfl | h
        · have := ih y (by simp); simp; omega
        · have := ih p (by simp [h]); simp; omega
theorem elt_memT {l : List (List UInt8)} {k : Nat} (h : k < l.length) : elt l k ∈ l := by
  unfold elt; rw [List.getD_eq_getElem?_getD, List.getElem?_eq_getElem h]; exact List.getElem_mem _
theorem snoc_ev (out : List Ev) (e : Ev) : out.map Ev.cells ++ [e.cells] = (out ++ [e]).map Ev.cells := by simp
theorem c_spec_NeckRead (s : List UInt8) (hl : s.length ≤ 1048576) :
    Fn Tryz.prog 7 [AV.text s] (AV.tup [evsAV (readAll s).1, AV.int (readAll s).2]) := by
 refine Fn.intro 47 Tryz.func7 rfl Tryz.ntmps7 rfl (by kernel_rfl) (fun W I a hs => ?_)
 have hsl := splitB_len 10 s
 refine sr <| hs.sc fun hs => hs.sc fun hs => nn <| sr ?_
 refine hs.lit0 rfl un24 ty50 (by decide) fun b10 I a w hs => ?_
 refine hs.s fun hs => nn <| wp_seq <| sr <| hs.m fun hs => hs.o (ok_lenT un9 .tt) fun hs => hs.o .gtrc fun hs => nn ?_
 refine hs.cd (fun hb1 => ?_) fun hb1 => ?_
 ·try simp only [B] at hb1
  refine sr <| hs.m fun hs => hs.s fun hs => hs.sc fun hs => nn <| wp_ret <| then_r ?_
  obtain ⟨I, hs, hf⟩ := hs.freezeRow 0 rfl
  have hs := hs.upd (t := 2) rfl hf
  refine hs.rt ?_
  exact (by unfold readAll; rw [if_pos (by omega)]; rfl)
 ·try simp only [B] at hb1
  refine wp_skip <| then_n <| sr ?_
  refine hs.lit0 rfl un24 ty50 (by decide) fun b15 I a w hs => ?_
  refine hs.s fun hs => nn <| sr <| hs.m fun hs => ?_
  refine hs.o (.cl (c_spec_l45Split _ 10 hl)) fun hs => ?_
  refine hs.s fun hs => nn <| wp_seq <| sr <| hs.sc fun hs => nn <| wp_block ?_
  refine St.lo (σ := Nat × List Ev × Value) (run 2 2 (5 :: (run 3 7 (run 28 18 [])))) ⟨fun ⟨k, out, v⟩ => [(7, AV.int k), (5, AV.val v)], fun ⟨k, out, v⟩ => [Own.row (.slice (some ⟨b10, 0, none⟩) 0 0) 50 11 [], Own.row v 50 11 (out.map Ev.cells)], fun ⟨k, out, v⟩ => k ≤ (splitB 10 s).length ∧ readAll s = readGo out k ((splitB 10 s).drop k) ∧ out.length ≤ k⟩ (fun ⟨k, out, v⟩ => (splitB 10 s).length - k) (0, [], .slice (some ⟨b15, 0, none⟩) 0 0) hs ?ok1 ?round1
  case ok1 => exact ⟨by simp, by unfold readAll; rw [if_neg (by omega)]; rfl, by simp⟩
  case round1 =>
   rintro ⟨k, out, v⟩ I a w hok hs
   obtain ⟨hk, he, hol⟩ := hok
   change St _ _ [Own.row (.slice (some ⟨b10, 0, none⟩) 0 0) 50 11 [], Own.row v 50 11 (out.map Ev.cells)] _ _ _ at hs
   refine wp_seq <| sr <| hs.m fun hs => hs.m fun hs => ?_
   refine hs.o .ln fun hs => ?_
   refine hs.o .lss fun hs => nn ?_
   refine hs.cd (fun hb2 => ?_) fun hb2 => ?_
   ·try simp only [B] at hb2
    refine wp_skip <| then_n <| wp_seq <| wp_block <| wp_seq <| sr <| hs.m fun hs => hs.m fun hs => ?_
    refine hs.o .ix fun hs => ?_
    refine hs.o .l1 fun hs => hs.o (ok_eqT .tt .c) fun hs => nn ?_
    refine hs.cd (fun hb3 => ?_) fun hb3 => ?_
    ·try simp only [B] at hb3
     refine wp_exit <| then_x <| block_hit <| then_n <| St.region <| hs.m fun hs => ?_
     refine hs.o .ad fun hs => ?_
     refine hs.s fun hs => nn ?_
     exact hs.ag (k + 1, out, v) (by first | exact ⟨hb2, by rw [he, drop_elt hb2, readGo, if_pos hb3], by omega⟩ | exact ⟨hb2, by rw [he, drop_elt hb2, readGo, if_neg hb3, if_pos hb4], by simp; omega⟩)
    ·try simp only [B] at hb3
     refine wp_skip <| then_n <| sr <| hs.m fun hs => hs.m fun hs => ?_
     refine hs.o .ix fun hs => ?_
     refine hs.o .l1 fun hs => ?_
     refine hs.o (ok_call (c_spec_l45Read _ (by have := splitB_elt 10 s _ (elt_memT hb2); omega)) (args_cons (.t rfl) args_nil)) fun hs => ?_
     refine hs.m fun hs => ?_
     refine hs.o .e fun hs => hs.o .e fun hs => hs.alloc rfl ty50 zc50 fun b8 I a w hs => ?_
     refine hs.sb 2 fun hs => ?_
     obtain ⟨I, hs, hf⟩ := hs.freezeBox 2 rfl
     have hs := hs.upd (t := 8) rfl hf; clear hf
     refine hs.s fun hs => nn <| wp_seq <| sr <| hs.m fun hs => hs.o .nt fun hs => nn ?_
     refine hs.cd (fun hb4 => ?_) fun hb4 => ?_
     ·rw [Bool.not_eq_true'] at hb4
      refine sr <| hs.m fun hs => hs.m fun hs => ?_
      refine hs.o .ad fun hs => ?_
      refine hs.s fun hs => hs.s fun hs => nn <| wp_ret <| then_r <| block_r <| then_r <| then_r <| block_r <| then_r ?_
      obtain ⟨I, hs, hf⟩ := hs.freezeRow 0 rfl
      have hs := hs.upd (t := 2) rfl hf
      refine hs.rt ?_
      have e9 : readAll s = ([], (k : Int) + 1) := by rw [he, drop_elt hb2, readGo, if_neg hb3, if_neg (by rw [hb4]; simp)]
      exact (by rw [e9]; rfl)
     ·rw [Bool.not_eq_false'] at hb4
      refine wp_skip <| then_n <| St.region <| hs.m fun hs => ?_
      refine hs.o .la fun hs => ?_
      refine hs.o (ok_litAll (lxs := [_]) un24 ty50 rfl zo50 rfl rfl (Parts.s rfl rfl rfl .tt Parts.nil) rfl (by simp only [List.forall_mem_cons]; exact ⟨rfl, fun _ h => by simp at h⟩)) fun hs => ?_
      refine hs.append 1 rfl un24 ty50 rfl .tt .r rfl (by simp; omega) fun v45 a w hs => ?_
      change St _ _ [Own.row (.slice (some ⟨b10, 0, none⟩) 0 0) 50 11 [], Own.row v45 50 11 (out.map Ev.cells ++ [((readB (elt (splitB 10 s) k)).getD default).cells]), Own.gone] _ _ _ at hs
      rw [snoc_ev] at hs
      refine hs.s fun hs => wpList_nil <| block_n <| then_n <| St.region <| hs.m fun hs => ?_
      refine hs.o .ad fun hs => ?_
      refine hs.s fun hs => nn ?_
      have hs := hs.drop 2
      exact hs.ag (k + 1, out ++ [(readB (elt (splitB 10 s) k)).getD default], v45) (by first | exact ⟨hb2, by rw [he, drop_elt hb2, readGo, if_pos hb3], by omega⟩ | exact ⟨hb2, by rw [he, drop_elt hb2, readGo, if_neg hb3, if_pos hb4], by simp; omega⟩)
   ·try simp only [B] at hb2
    refine wp_exit <| then_x <| then_x <| block_hit <| then_n <| sr <| hs.m fun hs => hs.s fun hs => hs.sc fun hs => nn <| wp_ret ?_
    obtain ⟨I, hs, hf⟩ := hs.freezeRow 1 rfl
    have hs := hs.upd (t := 2) rfl hf
    refine hs.rt ?_
    have e9 : readAll s = (out, 0) := by rw [he, List.drop_eq_nil_of_le (by omega)]; rfl
    exact (by rw [e9]; rfl)
theorem split_join (c : UInt8) : ∀ s, (splitB c s).headD [] ++ ((splitB c s).tail.map fun w => c :: w).flatten = s
  | [] => by simp [splitB]
  | x :: r => by
    have ih := split_join c r
    unfold splitB
    split
    · rename_i h
      subst h
      cases hsp : splitB x r with
      | nil => exact absurd hsp (splitB_ne x r)
      | cons y t => rw [hsp] at ih; simp at ih ⊢; exact ih
    · split
      · rename_i hsp; exact absurd hsp (splitB_ne c r)
      · rename_i y t hsp
        rw [hsp] at ih; simp at ih ⊢; exact ih
theorem parse_back {s : List UInt8} (h : 0 ≤ parseB s) : dec (parseB s) = s := by
  unfold parseB at h ⊢
  split at h
  · omega
  · rename_i h1
    rw [if_neg h1]
    split at h
    · rename_i h2
      rw [if_pos h2]
      split at h
      · rename_i h3; rw [if_pos h3]; exact h3
      · omega
    · omega
theorem place_some {w : List UInt8} {k : Nat} (h : placeB w = some k) : 2 ≤ k ∧ k < 13 ∧ names.getD k [] = w := by
  have h1 := List.find?_some h
  have h2 := List.mem_of_find?_eq_some h
  simp at h1 h2
  exact ⟨h1.1, h2, by simpa using h1.2⟩
theorem evK_read {k : Nat} {n : List Int} {e : Ev} (h1 : 2 ≤ k) (h2 : k < 13) (h : readEv k n = some e) : evK e = some (k, n) := by
  unfold readEv at h
  split at h
  · rename_i hc
    obtain ⟨rfl, hl⟩ := hc
    match n, hl with
    | [a, b, c], _ => cases h; rfl
  · split at h
    · rename_i hc
      obtain ⟨rfl, hl⟩ := hc
      match n, hl with
      | [a, b, c, d], _ => cases h; rfl
    · split at h
      · rename_i hc
        obtain ⟨rfl, hl⟩ := hc
        match n, hl with
        | [a, b], _ => cases h; rfl
      · split at h
        · cases h
        · rename_i g1 g2 g3 hc
          have hl : n.length = 1 := by omega
          match n, hl with
          | [a], _ =>
            split at h
            · rename_i hk; subst hk; cases h; rfl
            · split at h
              · rename_i hk
                rcases hk with rfl | rfl <;> (cases h; rfl)
              · split at h
                · rename_i hk
                  rcases hk with rfl | rfl <;> (cases h; rfl)
                · have hk : k = 6 ∨ k = 7 ∨ k = 8 := by omega
                  rcases hk with rfl | rfl | rfl <;> (cases h; rfl)
theorem line_back {s : List UInt8} {e : Ev} (h : readB s = some e) : lineB e = s := by
  unfold readB at h
  simp only at h
  split at h
  · rename_i hall
    obtain ⟨k, hk, he⟩ := Option.bind_eq_some_iff.1 h
    obtain ⟨k1, k2, k3⟩ := place_some hk
    unfold lineB
    rw [evK_read k1 k2 he]
    show lineOf k _ = s
    unfold lineOf fieldsB
    rw [k3, List.map_map]
    conv => rhs; rw [← split_join 32 s]
    congr 2
    refine List.map_congr_left fun w hw => ?_
    show 32 :: dec (parseB w) = 32 :: w
    rw [parse_back]
    have := List.all_eq_true.1 hall _ (List.mem_map_of_mem hw)
    simpa using this
  · cases h
theorem evLine_read {s : List UInt8} {e : Ev} (h : readB s = some e) : evLine e = s ++ [10] := by
  have h1 := line_back h
  unfold evLine; rw [h1, if_pos h]
theorem evLine_ok {e : Ev} (h : evLine e ≠ []) : readB (lineB e) = some e ∧ evLine e = lineB e ++ [10] ∧ lineB e ≠ [] := by
  unfold evLine at h
  split at h
  · rename_i h1
    refine ⟨h1, by unfold evLine; rw [if_pos h1], fun h2 => ?_⟩
    rw [h2, read_nil] at h1; cases h1
  · exact absurd rfl h
theorem lineB_byte (e : Ev) : ∀ x ∈ lineB e, x ≠ 10 := by
  intro x hx
  unfold lineB at hx
  split at hx
  · unfold lineOf fieldsB at hx
    rcases List.mem_append.1 hx with hx | hx
    · exact (names_byte _ x hx).2
    · obtain ⟨l, hl, hx⟩ := List.mem_flatten.1 hx
      obtain ⟨n, _, rfl⟩ := List.mem_map.1 hl
      rcases List.mem_cons.1 hx with rfl | hx
      · decide
      · exact (dec_byte n x hx).2
  · simp at hx
def linesOf (l : List Ev) : List UInt8 := (l.map evLine).flatten
theorem linesOf_cons (e : Ev) (l : List Ev) : linesOf (e :: l) = evLine e ++ linesOf l := by simp [linesOf]
theorem neckW_all : ∀ (l : List Ev) (out : List UInt8), (∀ e ∈ l, evLine e ≠ []) → out.length ≤ 60000 → neckW out l = if out.length + (linesOf l).length ≤ 60000 then out ++ linesOf l else []
  | [], out, _, h => by simp [neckW, linesOf, h]
  | e :: l, out, hl, h => by
    unfold neckW
    rw [linesOf_cons, List.length_append]
    by_cases hb : 60000 < out.length + (evLine e).length
    · rw [if_pos (.inr hb), if_neg (by omega)]
    · rw [if_neg (by rw [not_or]; exact ⟨hl e (by simp), hb⟩), neckW_all l _ (fun x hx => hl x (by simp [hx])) (by rw [List.length_append]; omega), List.length_append]
      by_cases h2 : out.length + (evLine e).length + (linesOf l).length ≤ 60000
      · rw [if_pos h2, if_pos (by omega), List.append_assoc]
      · rw [if_neg h2, if_neg (by omega)]
theorem neckW_some : ∀ (l : List Ev) (out : List UInt8), neckW out l ≠ [] → ∀ e ∈ l, evLine e ≠ []
  | [], _, _, _, h => by simp at h
  | e :: l, out, hn, x, hx => by
    unfold neckW at hn
    split at hn
    · exact absurd rfl hn
    · rename_i hc
      rw [not_or] at hc
      rcases List.mem_cons.1 hx with rfl | hx
      · exact hc.1
      · exact neckW_some l _ hn x hx
theorem split_lines : ∀ (l : List Ev), (∀ e ∈ l, evLine e ≠ []) → splitB 10 (linesOf l) = l.map lineB ++ [[]]
  | [], _ => by simp [linesOf, splitB]
  | e :: l, h => by
    rw [linesOf_cons, (evLine_ok (h e (by simp))).2.1, List.append_assoc]
    show splitB 10 (lineB e ++ 10 :: linesOf l) = _
    rw [splitB_cut (lineB_byte e), split_lines l fun x hx => h x (by simp [hx])]
    simp
def evsOf : List (List UInt8) → Option (List Ev)
  | [] => some []
  | ln :: r => if ln = [] then evsOf r else match readB ln with
    | none => none
    | some e => (evsOf r).map fun l => e :: l
theorem readGo_some : ∀ (l : List (List UInt8)) (out : List Ev) (k : Nat) (xs : List Ev), evsOf l = some xs → readGo out k l = (out ++ xs, 0)
  | [], out, k, xs, h => by cases h; simp [readGo]
  | ln :: r, out, k, xs, h => by
    unfold evsOf at h
    unfold readGo
    split at h
    · rename_i h1; rw [if_pos h1]; exact readGo_some r out (k + 1) xs h
    · rename_i h1
      rw [if_neg h1]
      split at h
      · cases h
      · rename_i e he
        obtain ⟨ys, hy, rfl⟩ := Option.map_eq_some_iff.1 h
        rw [if_pos (by rw [he]; rfl), he, readGo_some r _ (k + 1) ys hy]
        simp
theorem readGo_none : ∀ (l : List (List UInt8)) (out : List Ev) (k : Nat), evsOf l = none → ∃ j : Nat, readGo out k l = ([], (j : Int) + 1)
  | [], out, k, h => by cases h
  | ln :: r, out, k, h => by
    unfold evsOf at h
    unfold readGo
    split at h
    · rename_i h1; rw [if_pos h1]; exact readGo_none r out (k + 1) h
    · rename_i h1
      rw [if_neg h1]
      split at h
      · rename_i he; rw [if_neg (by rw [he]; simp)]; exact ⟨k, rfl⟩
      · rename_i e he
        rw [if_pos (by rw [he]; rfl)]
        exact readGo_none r _ (k + 1) (by simpa using h)
theorem readAll_some {s : List UInt8} {xs : List Ev} (h : s.length ≤ 60000) (he : evsOf (splitB 10 s) = some xs) : readAll s = (xs, 0) := by
  unfold readAll; rw [if_neg (by omega), readGo_some _ _ _ _ he]; rfl
theorem readAll_none {s : List UInt8} (h : 60000 < s.length ∨ evsOf (splitB 10 s) = none) : ∃ n : Int, readAll s = ([], n) ∧ -1 ≤ n ∧ n ≠ 0 := by
  unfold readAll
  split
  · exact ⟨-1, rfl, by omega, by omega⟩
  · obtain ⟨j, hj⟩ := readGo_none _ [] 0 (h.resolve_left (by assumption))
    exact ⟨_, hj, by omega, by omega⟩
theorem readAll_zero {s : List UInt8} (h : (readAll s).2 = 0) : s.length ≤ 60000 ∧ evsOf (splitB 10 s) = some (readAll s).1 := by
  by_cases h1 : 60000 < s.length ∨ evsOf (splitB 10 s) = none
  · obtain ⟨n, e, _, hn⟩ := readAll_none h1
    rw [e] at h; exact absurd h hn
  · rw [not_or] at h1
    obtain ⟨xs, hx⟩ := Option.ne_none_iff_exists'.1 h1.2
    refine ⟨by omega, ?_⟩
    rw [readAll_some (by omega) hx]; exact hx
theorem readAll_bad {s : List UInt8} (h : (readAll s).2 ≠ 0) : (readAll s).1 = [] ∧ -1 ≤ (readAll s).2 := by
  by_cases h1 : 60000 < s.length ∨ evsOf (splitB 10 s) = none
  · obtain ⟨n, e, hn, _⟩ := readAll_none h1
    rw [e]; exact ⟨rfl, hn⟩
  · rw [not_or] at h1
    obtain ⟨xs, hx⟩ := Option.ne_none_iff_exists'.1 h1.2
    rw [readAll_some (by omega) hx] at h; exact absurd rfl h
theorem readAll_nil : readAll [] = ([], 0) := by decide
theorem evs_lines : ∀ (l : List Ev), (∀ e ∈ l, evLine e ≠ []) → evsOf (l.map lineB ++ [[]]) = some l
  | [], _ => by simp [evsOf]
  | e :: l, h => by
    obtain ⟨h1, _, h3⟩ := evLine_ok (h e (by simp))
    rw [List.map_cons, List.cons_append, evsOf, if_neg h3, h1]
    simp only
    rw [evs_lines l fun x hx => h x (by simp [hx])]; rfl
theorem read_lines {l : List Ev} (h : ∀ e ∈ l, evLine e ≠ []) (hl : (linesOf l).length ≤ 60000) : readAll (linesOf l) = (l, 0) :=
  readAll_some hl (by rw [split_lines l h]; exact evs_lines l h)
theorem read_written (l : List Ev) (hn : neckW [] l ≠ []) : readAll (neckW [] l) = (l, 0) ∧ (neckW [] l).length ≤ 60000 := by
  have h1 := neckW_some l [] hn
  have h2 := neckW_all l [] h1 (by simp)
  by_cases h3 : (linesOf l).length ≤ 60000
  · rw [if_pos (by simpa using h3)] at h2
    rw [h2, List.nil_append]; exact ⟨read_lines h1 h3, h3⟩
  · rw [if_neg (by simpa using h3)] at h2
    exact absurd h2 hn
theorem evs_good : ∀ (ls : List (List UInt8)) (l : List Ev), evsOf ls = some l → (∀ e ∈ l, evLine e ≠ []) ∧ (linesOf l).length ≤ (ls.map fun w => w.length + 1).sum
  | [], l, h => by cases h; simp [linesOf]
  | ln :: r, l, h => by
    unfold evsOf at h
    split at h
    · obtain ⟨h1, h2⟩ := evs_good r l h
      exact ⟨h1, by simp; omega⟩
    · split at h
      · cases h
      · rename_i e he
        obtain ⟨ys, hy, rfl⟩ := Option.map_eq_some_iff.1 h
        obtain ⟨h1, h2⟩ := evs_good r ys hy
        have h3 := evLine_read he
        refine ⟨fun x hx => ?_, ?_⟩
        · rcases List.mem_cons.1 hx with rfl | hx
          · rw [h3]; simp
          · exact h1 x hx
        · rw [linesOf_cons, h3]; simp; omega
theorem split_sum (c : UInt8) : ∀ s, ((splitB c s).map fun w => w.length + 1).sum = s.length + 1
  | [] => by simp [splitB]
  | x :: r => by
    have ih := split_sum c r
    unfold splitB
    split
    · simp; omega
    · split
      · rename_i hsp; exact absurd hsp (splitB_ne c r)
      · rename_i y t hsp
        rw [hsp] at ih; simp at ih ⊢; omega
theorem read_again {s : List UInt8} (h : (readAll s).2 = 0) : (readAll (neckW [] (readAll s).1)).2 = 0 ∧ ((readAll (neckW [] (readAll s).1)).1 = (readAll s).1 ∨ neckW [] (readAll s).1 = [] ∧ 60000 < s.length + 1) := by
  obtain ⟨h1, h2⟩ := readAll_zero h
  generalize (readAll s).1 = l at h2 ⊢
  obtain ⟨h3, h4⟩ := evs_good _ _ h2
  rw [split_sum] at h4
  have h5 := neckW_all l [] h3 (by simp)
  by_cases h6 : (linesOf l).length ≤ 60000
  · rw [if_pos (by simpa using h6), List.nil_append] at h5
    rw [h5, read_lines h3 h6]; exact ⟨rfl, .inl rfl⟩
  · rw [if_neg (by simpa using h6)] at h5
    rw [h5, readAll_nil]; exact ⟨rfl, .inr ⟨rfl, by omega⟩⟩
theorem split_two (c : UInt8) : ∀ (a b : List UInt8), splitB c (a ++ c :: b) = splitB c a ++ splitB c b
  | [], b => by simp [splitB]
  | x :: a, b => by
    have ih := split_two c a b
    rw [List.cons_append, splitB]
    conv => rhs; rw [splitB]
    split
    · rw [ih]; rfl
    · rw [ih]
      cases hsp : splitB c a with
      | nil => exact absurd hsp (splitB_ne c a)
      | cons y t => rfl
theorem evs_two : ∀ (l m : List (List UInt8)), evsOf (l ++ m) = (evsOf l).bind fun x => (evsOf m).map fun y => x ++ y
  | [], m => by simp [evsOf]
  | ln :: r, m => by
    have ih := evs_two r m
    rw [List.cons_append, evsOf]
    conv => rhs; rw [evsOf]
    split
    · exact ih
    · split
      · rfl
      · rw [ih]
        cases evsOf r <;> cases evsOf m <;> rfl
theorem read_two {a b : List UInt8} (hl : a.length + b.length + 1 ≤ 60000) (ha : (readAll a).2 = 0) (hb : (readAll b).2 = 0) : readAll (a ++ [10] ++ b) = ((readAll a).1 ++ (readAll b).1, 0) := by
  obtain ⟨_, h1⟩ := readAll_zero ha
  obtain ⟨_, h2⟩ := readAll_zero hb
  refine readAll_some (by simp; omega) ?_
  rw [List.append_assoc, show [10] ++ b = (10 : UInt8) :: b from rfl, split_two, evs_two, h1, h2]; rfl
theorem read_two_bad {a b : List UInt8} (hl : a.length + b.length + 1 ≤ 60000) (h : (readAll a).2 ≠ 0 ∨ (readAll b).2 ≠ 0) : (readAll (a ++ [10] ++ b)).2 ≠ 0 ∧ (readAll (a ++ [10] ++ b)).1 = [] := by
  have key : ∀ s : List UInt8, s.length ≤ 60000 → (readAll s).2 ≠ 0 → evsOf (splitB 10 s) = none := fun s hs h => by
    by_cases h1 : evsOf (splitB 10 s) = none
    · exact h1
    · obtain ⟨xs, hx⟩ := Option.ne_none_iff_exists'.1 h1
      rw [readAll_some hs hx] at h; exact absurd rfl h
  have h2 : evsOf (splitB 10 (a ++ [10] ++ b)) = none := by
    rw [List.append_assoc, show [10] ++ b = (10 : UInt8) :: b from rfl, split_two, evs_two]
    rcases h with h | h
    · rw [key a (by omega) h]; rfl
    · rw [key b (by omega) h]; cases evsOf (splitB 10 a) <;> rfl
  obtain ⟨n, e, _, hn⟩ := readAll_none (.inr h2)
  rw [e]; exact ⟨hn, rfl⟩
theorem ok_slLM {P : Program} {H : List Own} {Γ : Env} {g : Bool} {d : Option Tmp} {y z : Operand} {ty T E : TypeId} {p : String} {af : Array Edge} {gd : Option (Nat × Bool)} {m : Nat} {zv : Value} {α : Type} {s : Nat} {ag : Bool} {fc : α → List AV} {l : List α} {lo : Nat} (hT : P.underlying T = some (.slice E)) (hE : Ty P E ag s m zv) (h : At Γ g y (.rows s (l.map fc))) (h1 : At Γ g z (.int (lo : Int))) (hb : g = true → lo ≤ l.length) :
    Ok P H Γ g ⟨d, .slice T y (some z) none none, ty, p, af, gd⟩ (.rows s ((l.drop lo).map fc)) := by
  have := ok_slL (H := H) (d := d) (ty := ty) (p := p) (af := af) (gd := gd) hT hE h h1 (fun e => ⟨by omega, by rw [List.length_map]; have := hb e; omega⟩)
  rwa [Int.toNat_natCast, ← List.map_drop] at this
def setK (j : Nat) (ns : List Int) (m : Nat) : List Int := (((formAt j).offs.zip ns).take m).foldl (fun l p => l.set p.1 p.2) (formAt j).ev.ints
theorem zset_len : ∀ (ps : List (Nat × Int)) (l : List Int), (ps.foldl (fun l p => l.set p.1 p.2) l).length = l.length
  | [], l => rfl
  | p :: ps, l => by rw [List.foldl_cons, zset_len ps]; simp
theorem setK_len (j : Nat) (ns : List Int) (m : Nat) : (setK j ns m).length = 11 := by unfold setK; rw [zset_len]; rfl
theorem setK_all {j m : Nat} {ns : List Int} (h : ns.length ≤ m) : setK j ns m = setTo j ns := by
  unfold setK setTo; rw [List.take_of_length_le (by simp; omega)]
theorem setK_succ {j m : Nat} {ns : List Int} (h1 : m < (formAt j).offs.length) (h2 : m < ns.length) : ((setK j ns m).map AV.int).set (elt (formAt j).offs m) (.int (elt ns m)) = (setK j ns (m + 1)).map AV.int := by
  unfold setK
  rw [List.take_succ_eq_append_getElem (by simp; omega), List.foldl_append]
  simp [elt, h1, h2, List.map_set]
theorem evOf_ints : ∀ {l : List Int}, l.length = 11 → (evOf l).ints = l
  | [_, _, _, _, _, _, _, _, _, _, _], _ => rfl
theorem word_bad {w : List UInt8} (h : (atoiV w).2 = true ∨ written (atoiV w).1 = false ∨ dec (atoiV w).1 ≠ w) : parseB w < 0 := by
  refine Classical.byContradiction fun hn => ?_
  obtain ⟨h1, h2, h3⟩ := atoi_good (s := w) (by omega)
  rw [h1] at h
  rcases h with h | h | h
  · cases h
  · rw [h2] at h; cases h
  · exact h h3
theorem word_good {w : List UInt8} (h1 : (atoiV w).2 = false) (h2 : written (atoiV w).1 = true) (h3 : dec (atoiV w).1 = w) : 0 ≤ parseB w ∧ (atoiV w).1 = parseB w := by
  obtain ⟨e1, e2⟩ := atoi_bad h1 h2 h3
  exact ⟨e2, e1.symm⟩
theorem word_test {w : List UInt8} (h : ((atoiV w).2 || !written (atoiV w).1 || dec (atoiV w).1 != w) = true) : parseB w < 0 := by
  refine word_bad ?_
  simp only [Bool.or_eq_true, Bool.not_eq_true', bne_iff_ne] at h
  rcases h with (h | h) | h
  · exact .inl h
  · exact .inr (.inl h)
  · exact .inr (.inr h)
theorem word_test2 {w : List UInt8} (h : ((atoiV w).2 || !written (atoiV w).1 || dec (atoiV w).1 != w) = false) : 0 ≤ parseB w ∧ (atoiV w).1 = parseB w := by
  simp only [Bool.or_eq_false_iff, Bool.not_eq_false', bne_eq_false_iff_eq] at h
  exact word_good h.1.1 h.1.2 h.2
theorem elt_drop (ws : List (List UInt8)) (m : Nat) : elt (ws.drop 1) m = elt ws (m + 1) := by
  simp [elt, List.getD_eq_getElem?_getD, Nat.add_comm]
theorem elt_nums {ws : List (List UInt8)} {m : Nat} (h : m < (ws.drop 1).length) : elt (ws.tail.map parseB) m = parseB (elt (ws.drop 1) m) := by
  have h' : m + 1 < ws.length := by simp at h; omega
  have h2 : m < ws.tail.length := by simp; omega
  rw [elt_drop]
  simp [elt, List.getD_eq_getElem?_getD, h']
theorem nums_all {ws : List (List UInt8)} {m : Nat} (hm : (ws.drop 1).length ≤ m) (h : ∀ i, i < m → i < (ws.drop 1).length → 0 ≤ parseB (elt (ws.drop 1) i)) : ∀ x ∈ ws.tail.map parseB, (0 : Int) ≤ x := by
  intro x hx
  obtain ⟨i, hi, rfl⟩ := List.getElem_of_mem hx
  have hi2 : i < (ws.drop 1).length := by simpa using hi
  have := h i (by omega) hi2
  rw [← elt_nums hi2] at this
  have e : elt (ws.tail.map parseB) i = (ws.tail.map parseB)[i] := by unfold elt; rw [List.getD_eq_getElem?_getD, List.getElem?_eq_getElem hi]; rfl
  rw [e] at this; exact this
theorem c_impl_readEvent (s : List UInt8) (hl : s.length ≤ 1048576) :
    Fn Tryz.prog 21 [AV.tab4 (AV.text s)] (AV.tup [((readB s).getD default).av, AV.bool (readB s).isSome]) := by
 refine Fn.intro 76 Tryz.func21 rfl Tryz.ntmps21 rfl (by kernel_rfl) (fun W I a hs => ?_)
 have hsl := splitB_len 32 s
 have hsp := split_pos s
 refine sr <| hs.alloc rfl ty50 zc50 fun b2 I a w hs => hs.sc fun hs => nn <| sr <| hs.o (ok_move (.untab4 rfl)) fun hs => hs.o (ok_call (c_strings_Split _ 32 hl) (args_cons (.tab4 (t := 0) rfl .tt) (args_cons .c args_nil))) fun hs => hs.s fun hs => nn <| wp_seq <| sr ?_
 refine hs.o (.cl (c_impl_forms ..)) fun hs => ?_
 refine hs.o .ln fun hs => ?_
 refine hs.mc fun hs => nn <| wp_block ?_
 refine St.lo (σ := Nat) (3 :: (run 7 6 (run 58 17 []))) ⟨fun k => [(17, AV.int k)], fun k => [Own.box b2 50 zeroEv], fun k => k ≤ 11 ∧ ∀ i, i < k → (formAt i).word ≠ elt (splitB 32 s) 0⟩ (fun k => 11 - k) 0 hs ?ok1 ?round1
 case ok1 => exact ⟨by omega, fun i hi => by omega⟩
 case round1 =>
  rintro k I a w hok hs
  obtain ⟨hk, hall⟩ := hok
  refine sr <| hs.o .lss fun hs => nn <| wp_seq ?_
  refine hs.cd (fun hb1 => ?_) fun hb1 => ?_
  ·try simp only [B] at hb1
   refine wp_skip <| then_n <| wp_seq <| wp_block <| sr ?_
   have hkr := elt_range hb1
   have hj : elt (List.range 11) k < 11 := by rw [hkr]; simpa using hb1
   have h4 := form_offs_len _ hj
   refine hs.o .ix fun hs => ?_
   refine hs.o .la fun hs => ?_
   refine hs.alloc rfl ty78 zc78 fun b6 I a w hs => ?_
   refine hs.sb 1 fun hs => ?_
   obtain ⟨I, hs, hf⟩ := hs.freezeBox 1 rfl
   have hs := hs.upd (t := 6) rfl hf; clear hf
   refine nn <| wp_seq <| wp_seq <| hs.dk <| .o .fp <| .o .l1 <| .o .mv ?_
   refine .o .ix ?_
   refine .o .l1 <| .o (ok_neT .tt .tt) <| .nil ?_
   intro I a w hs
   refine then_n ?_
   refine hs.cd (fun hb2 => ?_) fun hb2 => ?_
   ·try simp only [B] at hb2
    refine wp_exit <| then_x <| block_hit <| then_n <| St.region ?_
    refine hs.o .ad fun hs => ?_
    refine hs.m fun hs => nn ?_
    have hs := hs.drop 1
    exact hs.ag (k + 1) (⟨by simp at hb1; omega, fun i h1 => by rcases Nat.lt_succ_iff_lt_or_eq.1 h1 with h | h; exact hall i h; rw [hkr] at hb2; rw [h]; exact hb2⟩) (hμ := by simp at hb1; omega)
   ·try simp only [B] at hb2
    refine wp_skip <| then_n <| sr <| hs.o .fp fun hs => ?_
    refine hs.o .la fun hs => ?_
    refine hs.alloc rfl ty50 zc50 fun b7 I a w hs => ?_
    refine hs.sb 2 fun hs => ?_
    refine nn <| sr <| hs.o .fp fun hs => hs.o .l1 fun hs => hs.o (ok_callV (form_fields _ _ hj) .tt (args_cons .tt args_nil)) fun hs => hs.s fun hs => nn <| wp_seq <| sr <| hs.m fun hs => ?_
    refine hs.o .ln fun hs => ?_
    refine hs.m fun hs => ?_
    refine hs.o .ln fun hs => ?_
    refine hs.o .ad fun hs => ?_
    refine hs.o .nei fun hs => nn ?_
    refine hs.cd (fun hb3 => ?_) fun hb3 => ?_
    ·simp only [bne_iff_ne] at hb3
     refine sr ?_
     refine hs.o (.bd zc50 Parts.nil) fun hs => ?_
     refine hs.sb 0 fun hs => ?_
     refine hs.sc fun hs => nn <| wp_ret <| then_r <| block_r <| then_r <| then_r <| block_r <| then_r ?_
     refine hs.ret rfl (.cons (.s 0 ty50 rfl rfl (by first | rfl | assumption)) (.cons (.t rfl) ResL.nil)) ?_
     exact (by rw [readB_len hj hb2 (by omega)]; rfl)
    ·simp only [bne_eq_false_iff_eq] at hb3; have hmo9 : (splitB 32 s).length = (formAt (elt (List.range 11) k)).offs.length + 1 := by omega
     refine wp_skip <| then_n <| wp_seq <| sr <| hs.m fun hs => hs.o (ok_slLM (lo := 1) un47 ty9 .tt .c (fun _ => hsp)) fun hs => ?_
     refine hs.o .ln fun hs => ?_
     refine hs.mc fun hs => nn <| wp_block ?_
     refine St.lo (σ := Nat) (3 :: (run 4 9 (run 31 42 []))) ⟨fun m => [(42, AV.int m)], fun m => [Own.box b2 50 zeroEv, Own.gone, Own.box b7 50 ((setK (elt (List.range 11) k) ((splitB 32 s).tail.map parseB) m).map AV.int)], fun m => m ≤ ((splitB 32 s).drop 1).length ∧ ∀ i, i < m → i < ((splitB 32 s).drop 1).length → 0 ≤ parseB (elt ((splitB 32 s).drop 1) i)⟩ (fun m => ((splitB 32 s).drop 1).length - m) 0 hs ?ok2 ?round2
     case ok2 => exact ⟨by omega, fun i hi => by omega⟩
     case round2 =>
      rintro m I a w hok hs
      obtain ⟨hm, hgood⟩ := hok
      change St _ _ [Own.box b2 50 zeroEv, Own.gone, Own.box b7 50 ((setK (elt (List.range 11) k) ((splitB 32 s).tail.map parseB) m).map AV.int)] _ _ _ at hs
      refine sr <| hs.o .lss fun hs => nn <| wp_seq ?_
      refine hs.cd (fun hb4 => ?_) fun hb4 => ?_
      ·try simp only [B] at hb4
       refine wp_skip <| then_n <| wp_seq <| wp_block <| sr <| hs.m fun hs => ?_
       have hwl : (elt ((splitB 32 s).drop 1) m).length ≤ 1048576 := by rw [elt_drop]; have := splitB_elt 32 s _ (elt_memT (l := splitB 32 s) (k := m + 1) (by simp at hb4; omega)); omega
       refine hs.o .ix fun hs => ?_
       refine hs.o .l1 fun hs => hs.s fun hs => hs.s fun hs => nn <| sr <| hs.m fun hs => hs.o (ok_call (c_strconv_Atoi _ hwl) (args_cons (.tab4 (t := 0) rfl .tt) args_nil)) fun hs => hs.m fun hs => ?_
       refine hs.o .e fun hs => hs.o .e fun hs => hs.s fun hs => hs.s fun hs => nn <| wp_seq <| sr <| hs.m fun hs => hs.o (ok_neNil Tryz.underlying61 .tt) fun hs => hs.m fun hs => hs.q .F .mv fun hs => ?_
       refine hs.q .F (.cl (c_impl_isWritten ..)) fun hs => ?_
       refine hs.q .F (.ntx .ag) fun hs => ?_
       refine hs.o .or fun hs => hs.m fun hs => hs.q .F .mv fun hs => ?_
       refine hs.q .F (ok_call (c_strconv_Itoa _ (atoiV_range _)) (args_cons (.tab41 (t := 0) rfl .ag) args_nil)) fun hs => ?_
       refine hs.q .F .mv fun hs => ?_
       refine hs.q .F (ok_neT .ag .ag) fun hs => ?_
       refine hs.o .or fun hs => nn ?_
       refine hs.cd (fun hb5 => ?_) fun hb5 => ?_
       ·skip
        refine sr ?_
        refine hs.o (.bd zc50 Parts.nil) fun hs => ?_
        refine hs.sb 0 fun hs => ?_
        refine hs.sc fun hs => nn <| wp_ret <| then_r <| block_r <| then_r <| then_r <| block_r <| then_r <| block_r <| then_r <| then_r <| block_r <| then_r ?_
        refine hs.ret rfl (.cons (.s 0 ty50 rfl rfl (by first | rfl | assumption)) (.cons (.t rfl) ResL.nil)) ?_
        have hp := word_test hb5
        rw [elt_drop] at hp
        exact (by rw [readB_bad (k := m + 1) (by omega) (by simp at hb4; omega) hp]; rfl)
       ·have hmo : m < (formAt (elt (List.range 11) k)).offs.length := by simp at hb4; omega
        refine wp_skip <| then_n <| St.region <| hs.m fun hs => hs.m fun hs => ?_
        refine hs.o ((by first | exact ok_idxN un79 ty83 .tt .tt (fun _ => by exact hmo) | exact ok_idxM un79 ty83 .tt .tt (fun _ => by exact hmo) | exact ok_idx un79 ty83 .tt .tt (fun _ => by exact hmo))) fun hs => ?_
        refine hs.o .l1 fun hs => hs.m fun hs => ?_
        refine hs.o .nl fun hs => ?_
        refine hs.store1 2 ty3 .tt .tt (by first | exact one_val rfl | exact one_rows | exact one_ptr | exact one_fn) rfl (Nat.ble_eq_true_of_le (by simp only [List.length_map, setK_len]; exact form_offs _ hj _ (eltW_mem hmo))) fun a w hs => ?_
        refine wpList_nil <| block_n <| then_n <| St.region ?_
        refine hs.o .ad fun hs => ?_
        refine hs.m fun hs => nn ?_
        change St _ _ [Own.box b2 50 zeroEv, Own.gone, Own.box b7 50 (((setK (elt (List.range 11) k) ((splitB 32 s).tail.map parseB) m).map AV.int).set (elt (formAt (elt (List.range 11) k)).offs m) (.int (atoiV (elt ((splitB 32 s).drop 1) m)).1))] _ _ _ at hs
        rw [(word_test2 hb5).2, ← elt_nums hb4, setK_succ hmo (by simp at hb4 ⊢; omega)] at hs
        exact hs.ag (m + 1) (⟨hb4, fun i h1 h2 => by rcases Nat.lt_succ_iff_lt_or_eq.1 h1 with h | h; exact hgood i h h2; rw [h]; exact (word_test2 hb5).1⟩)
      ·try simp only [B] at hb4
       refine wp_exit <| then_x <| then_x <| block_hit <| then_n <| sr ?_
       rw [setK_all (by simp at hb4 ⊢; omega)] at hs
       have hml : ((setTo (elt (List.range 11) k) ((splitB 32 s).tail.map parseB)).map AV.int).length = 11 := by have := setK_len (elt (List.range 11) k) ((splitB 32 s).tail.map parseB) m; rw [setK_all (by simp at hb4 ⊢; omega)] at this; simpa using this
       have hld : (((setTo (elt (List.range 11) k) ((splitB 32 s).tail.map parseB)).map AV.int).drop 0).take 11 = (setTo (elt (List.range 11) k) ((splitB 32 s).tail.map parseB)).map AV.int := by rw [List.drop_zero, List.take_of_length_le (by omega)]
       refine hs.o (ok_loadBS 2 ty50 .tt rfl hld hml) fun hs => ?_
       refine hs.sb 0 fun hs => ?_
       refine hs.sc fun hs => nn <| wp_ret <| block_r <| then_r <| then_r <| block_r <| then_r ?_
       refine hs.ret rfl (.cons (.s 0 ty50 rfl rfl (by first | rfl | assumption)) (.cons (.t rfl) ResL.nil)) ?_
       have e9 := readB_form hj hb2 hmo9 (nums_all (by omega) hgood)
       have e8 := evOf_ints (l := setTo (elt (List.range 11) k) ((splitB 32 s).tail.map parseB)) (by simpa using hml)
       exact (by rw [e9]; show resAV [AV.agg ((setTo (elt (List.range 11) k) ((splitB 32 s).tail.map parseB)).map AV.int), AV.bool true] = AV.tup [AV.agg (evOf (setTo (elt (List.range 11) k) ((splitB 32 s).tail.map parseB))).cells, AV.bool true]; rw [Ev.cells_ints, e8]; rfl)
  ·try simp only [B] at hb1
   refine wp_exit <| then_x <| then_x <| block_hit <| then_n <| sr ?_
   refine hs.o (.bd zc50 Parts.nil) fun hs => ?_
   refine hs.sb 0 fun hs => ?_
   refine hs.sc fun hs => nn <| wp_ret ?_
   refine hs.ret rfl (.cons (.s 0 ty50 rfl rfl (by first | rfl | assumption)) (.cons (.t rfl) ResL.nil)) ?_
   exact (by rw [readB_noform (fun i hi => hall i (by simp at hb1; omega))]; rfl)
end Go.Proofs.YtkoebplikhlapaaGreatDoor
