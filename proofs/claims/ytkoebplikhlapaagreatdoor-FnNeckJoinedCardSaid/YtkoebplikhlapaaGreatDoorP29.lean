/- Part 29: rules of the proofs, contracts of functions, plain facts. -/
import Derived.Test.YtkoebplikhlapaaGreatDoorP28
set_option linter.unusedVariables false
set_option linter.unusedSimpArgs false
set_option maxRecDepth 100000
namespace Go.Proofs.YtkoebplikhlapaaGreatDoor
open Go Go.RowKit
theorem hearS_1 {s : Server} {m : Word} (h : m.kind = 1) : hearS s m = ((hearPut s m).1, (hearPut s m).2) := by unfold hearS; rw [if_pos h]
theorem hearS_3 {s : Server} {m : Word} (h : m.kind = 3) : hearS s m = (s, hearGet s m) := by unfold hearS; rw [h]; rfl
theorem hearS_5 {s : Server} {m : Word} (h : m.kind = 5) : hearS s m = ((hearRep s m).1, (hearRep s m).2) := by unfold hearS; rw [h]; rfl
theorem hearS_6 {s : Server} {m : Word} (h : m.kind = 6) : hearS s m = (hearPaid s m, []) := by unfold hearS; rw [h]; rfl
theorem hearS_7t {s : Server} {m : Word} (h : m.kind = 7) (h2 : ((chainAt s.vers ⟨m.key, m.stamp⟩).isSome && (m.frm == twinI s.site)) = true) (hc : chainOk s.vers = true) : hearS s m = (s, [haveW s m]) := by
  rw [chainAt_atV hc] at h2
  unfold hearS; rw [h]; show (s, hearCheck s m) = _
  unfold hearCheck; rw [h2]; rfl
theorem hearS_7f {s : Server} {m : Word} (h : m.kind = 7) (h2 : ((chainAt s.vers ⟨m.key, m.stamp⟩).isSome && (m.frm == twinI s.site)) = false) (hc : chainOk s.vers = true) : hearS s m = (s, []) := by
  rw [chainAt_atV hc] at h2
  unfold hearS; rw [h]; show (s, hearCheck s m) = _
  unfold hearCheck; rw [h2]; rfl
theorem hearS_8 {s : Server} {m : Word} (h : m.kind = 8) : hearS s m = (hearHave s m, []) := by unfold hearS; rw [h]; rfl
theorem hearS_9 {s : Server} {m : Word} (h : m.kind = 9) : hearS s m = ((hearBulk s m).1, (hearBulk s m).2) := by unfold hearS; rw [h]; rfl
theorem hearS_10 {s : Server} {m : Word} (h : m.kind = 10) : hearS s m = (hearGone s m, []) := by unfold hearS; rw [h]; rfl
theorem hearS_0 {s : Server} {m : Word} (h1 : ¬ m.kind = 1) (h3 : ¬ m.kind = 3) (h5 : ¬ m.kind = 5) (h6 : ¬ m.kind = 6) (h7 : ¬ m.kind = 7) (h8 : ¬ m.kind = 8) (h9 : ¬ m.kind = 9) (h10 : ¬ m.kind = 10) : hearS s m = (s, []) := by
  unfold hearS; rw [if_neg h1, if_neg h3, if_neg h5, if_neg h6, if_neg h7, if_neg h8, if_neg h9, if_neg h10]
theorem hearPut_len (s : Server) (m : Word) : (hearPut s m).2.length ≤ 1 := by
  unfold hearPut
  split
  · split
    · simp
    · split <;> simp
  · simp
theorem hearGet_len (s : Server) (m : Word) : (hearGet s m).length ≤ 1 := by
  unfold hearGet
  split
  · split
    · simp
    · split <;> simp
  · simp
theorem hearRep_len (s : Server) (m : Word) : (hearRep s m).2.length ≤ 1 := by
  unfold hearRep
  split
  · dsimp only
    split
    · split <;> simp
    · simp
  · simp
theorem hearBulk_len (s : Server) (m : Word) : (hearBulk s m).2.length ≤ 1 := by
  unfold hearBulk
  split
  · split
    · simp
    · split <;> simp
  · simp
theorem hearS_len (s : Server) (m : Word) : (hearS s m).2.length ≤ 1 := by
  unfold hearS
  repeat' split
  · exact hearPut_len s m
  · exact hearGet_len s m
  · exact hearRep_len s m
  · simp
  · show (hearCheck s m).length ≤ 1
    unfold hearCheck; split <;> simp
  · simp
  · exact hearBulk_len s m
  · simp
  · simp
theorem hear_parts {s : Server} {m : Word} (h : (s.up && wordOk m && (m.to == s.site)) = true) : s.up = true ∧ wordOk m = true := by
  rw [Bool.and_eq_true, Bool.and_eq_true] at h; exact h.1
def leavK (s : Server) (k : Nat) : List Nat := (List.range k).filter fun i => (elt s.slots i).stand == 2
theorem leavK_all {s : Server} : leavK s s.slots.length = leaving s := rfl
theorem leavK_yes {s : Server} {k : Nat} (h : (elt s.slots k).stand = 2) : leavK s (k + 1) = leavK s k ++ [k] := by
  unfold leavK; rw [List.range_succ, List.filter_append]; simp [h]
theorem leavK_no {s : Server} {k : Nat} (h : ¬ (elt s.slots k).stand = 2) : leavK s (k + 1) = leavK s k := by
  unfold leavK; rw [List.range_succ, List.filter_append]; simp [h]
theorem leavK_len (s : Server) (k : Nat) : (leavK s k).length ≤ k := by
  have := List.length_filter_le (fun i => (elt s.slots i).stand == 2) (List.range k)
  rw [List.length_range] at this; exact this
def bulksK (s : Server) (k : Nat) : List Word := (leavK s k).map fun i : Nat => bulkW s (i : Int)
theorem bulksK_yes {s : Server} {k : Nat} (h : (elt s.slots k).stand = 2) : bulksK s k ++ [bulkW s (k : Int)] = bulksK s (k + 1) := by
  unfold bulksK; rw [leavK_yes h, List.map_append]; rfl
theorem bulksK_no {s : Server} {k : Nat} (h : ¬ (elt s.slots k).stand = 2) : bulksK s k = bulksK s (k + 1) := by
  unfold bulksK; rw [leavK_no h]
theorem bulksK_len (s : Server) (k : Nat) : (bulksK s k).length ≤ k := by unfold bulksK; rw [List.length_map]; exact leavK_len s k
def repsK (s : Server) (k : Nat) : List Word := bulksK s 3 ++ ((s.owes.take k).map (repWs s)).flatten
theorem repsK_succ {s : Server} {k : Nat} (h : k < s.owes.length) : repsK s (k + 1) = repsK s k ++ repWs s (elt s.owes k) := by
  unfold repsK; rw [take_elt h, List.map_append, List.flatten_append, List.append_assoc]; simp
theorem repWs_len (s : Server) (d : Dep) : (repWs s d).length ≤ 2 := by unfold repWs; split <;> simp
theorem repsK_len (s : Server) : ∀ k, k ≤ s.owes.length → (repsK s k).length ≤ 3 + 2 * k
  | 0, _ => by have := bulksK_len s 3; simp [repsK]; omega
  | k + 1, h => by have := repsK_len s k (by omega); have := repWs_len s (elt s.owes k); rw [repsK_succ (by omega), List.length_append]; omega
theorem repWs_no {s : Server} {d : Dep} (h : ¬ standOf s d.key = 1) : repWs s d = [] := by unfold repWs; rw [if_neg (by simpa using h)]
theorem repWs_two {s : Server} {d : Dep} (h : standOf s d.key = 1) : (repWs s d).length = 2 := by unfold repWs; rw [if_pos (by simpa using h)]; rfl
theorem repWs_elt {s : Server} {d : Dep} {v : Ver} (h : standOf s d.key = 1) (hv : atV s.vers d = some v) {j : Nat} (hj : j < 2) : elt (repWs s d) j = { word0 with kind := 5, frm := s.site, to := 2 - 2 * siteSide s.site + (j : Int), vers := [v] } := by
  unfold repWs; rw [if_pos (by simpa using h), hv]
  match j, hj with
  | 0, _ => show _ = { word0 with kind := 5, frm := s.site, to := 2 - 2 * siteSide s.site + (0 : Int), vers := [v] }; rw [Int.add_zero]; rfl
  | 1, _ => rfl
theorem owed_at {s : Server} (h : SrvGood s) {d : Dep} (hd : d ∈ s.owes) : ∃ v, atV s.vers d = some v ∧ v.key = d.key ∧ v ∈ s.vers := by
  obtain ⟨x, hx, e⟩ := h.owed d hd
  have hp := place_iff.2 ⟨x, hx, e⟩
  obtain ⟨h1, h2⟩ := place_hit hp
  refine ⟨elt s.vers (placeOf s.vers d).toNat, by unfold atV; rw [if_pos hp], congrArg Dep.key h2, elt_mem h1⟩
def askK (s : Server) (i : Nat) : List Dep := ((s.waits.take i).map Ver.deps).flatten.foldl (askD s) []
def askJ (s : Server) (i j : Nat) : List Dep := ((elt s.waits i).deps.take j).foldl (askD s) (askK s i)
theorem askJ_succ {s : Server} {i j : Nat} (h : j < (elt s.waits i).deps.length) : askJ s i (j + 1) = askD s (askJ s i j) (elt (elt s.waits i).deps j) := by
  unfold askJ; rw [take_elt h, List.foldl_append]; rfl
theorem askJ_all {s : Server} {i j : Nat} (h : i < s.waits.length) (hj : (elt s.waits i).deps.length ≤ j) : askJ s i j = askK s (i + 1) := by
  unfold askJ askK
  rw [List.take_of_length_le hj, take_elt h, List.map_append, List.flatten_append, List.foldl_append]; simp
theorem askK_all (s : Server) {i : Nat} (h : s.waits.length ≤ i) : askK s i = askedS s := by unfold askK askedS; rw [List.take_of_length_le h]
theorem askD_len (s : Server) (l : List Dep) (d : Dep) : (askD s l d).length ≤ l.length + 1 := by unfold askD; split <;> simp
theorem askF_len (s : Server) : ∀ (l asked : List Dep), (l.foldl (askD s) asked).length ≤ asked.length + l.length
  | [], asked => by simp
  | d :: r, asked => by have := askF_len s r (askD s asked d); have := askD_len s asked d; simp only [List.foldl_cons, List.length_cons]; omega
theorem askJ_len (s : Server) (i j : Nat) : (askJ s i j).length ≤ (askK s i).length + j := by
  have h1 := askF_len s ((elt s.waits i).deps.take j) (askK s i)
  have h2 : ((elt s.waits i).deps.take j).length ≤ j := by simp; omega
  unfold askJ; omega
theorem askK_len {s : Server} (h : ∀ v ∈ s.waits, v.deps.length ≤ 6) : ∀ i, i ≤ s.waits.length → (askK s i).length ≤ 6 * i
  | 0, _ => by simp [askK]
  | i + 1, hi => by
    have h1 := askK_len h i (by omega)
    have h2 := askJ_len s i (elt s.waits i).deps.length
    have h3 := h _ (elt_mem (l := s.waits) (k := i) (by omega))
    rw [← askJ_all (by omega) (Nat.le_refl _)]; omega
def askWs (s : Server) (l : List Dep) : List Word := repsK s s.owes.length ++ l.map (askW s)
theorem askD_no {s : Server} {l : List Dep} {d : Dep} (h : (!seenS s d && decide (depI l d < 0)) = false) : askD s l d = l := by
  unfold askD; rw [if_pos]
  rw [Bool.or_eq_true, decide_eq_true_eq]
  rw [Bool.and_eq_false_iff, Bool.not_eq_false', decide_eq_false_iff_not] at h
  rcases h with h | h
  · exact .inl h
  · exact .inr (by omega)
theorem askD_yes {s : Server} {l : List Dep} {d : Dep} (h : (!seenS s d && decide (depI l d < 0)) = true) : askD s l d = l ++ [d] := by
  unfold askD; rw [if_neg]
  rw [Bool.or_eq_true, decide_eq_true_eq]
  rw [Bool.and_eq_true, Bool.not_eq_true', decide_eq_true_eq] at h
  rw [h.1]; simp; omega
theorem askWs_snoc (s : Server) (l : List Dep) (d : Dep) : askWs s l ++ [askW s d] = askWs s (l ++ [d]) := by unfold askWs; simp
theorem tendS_eq {s : Server} (hu : s.up = true) (h3 : s.slots.length = 3) : askWs s (askedS s) = tendS s := by
  unfold askWs repsK bulksK tendS
  rw [hu, if_pos rfl, List.take_length, ← h3, leavK_all]
theorem tendS_len {s : Server} (hg : SrvGood s) : (tendS s).length ≤ 1000 := by
  by_cases hu : s.up = true
  · have h1 := repsK_len s s.owes.length (Nat.le_refl _)
    have h2 := debts_len hg.owes
    have h3 := askK_len (s := s) (fun v hv => depsOk_len6 (verOk_parts (chain_all hg.waits v hv)).2.2) s.waits.length (Nat.le_refl _)
    have h4 := chain_len hg.waits
    rw [askK_all s (Nat.le_refl _)] at h3
    rw [← tendS_eq hu hg.slots]
    unfold askWs
    rw [List.length_append, List.length_map]; omega
  · unfold tendS; rw [if_neg hu]; simp
theorem tendS_down {s : Server} (hu : s.up = false) : tendS s = [] := by unfold tendS; rw [hu]; rfl
theorem tend_test (s : Server) : (!serverOk s || !s.up) = !(serverOk s && s.up) := by simp
set_option maxHeartbeats 4000000 in
theorem c_spec_ServerHear (s : Server) (m : Word) (hg : SrvGood s) :
    Fn Tryz.prog 95 [s.av, m.av] (AV.tup [(serverHear s m).1.av, wordsAV (serverHear s m).2]) := by
 refine Fn.intro 118 Tryz.func95 rfl Tryz.ntmps95 rfl (by kernel_rfl) (fun W I a hs => ?_)
 have hok := serverOk_iff.2 hg
 have hso := hg.ok
 refine sr <| hs.o .bp fun hs => hs.o .bp fun hs => hs.alloc rfl ty89 zc89 fun b4 I a w hs => hs.sc fun hs => nn <| sr ?_
 refine hs.lit0 rfl un37 ty135 (by decide) fun b11 I a w hs => ?_
 obtain ⟨I, hs, hf⟩ := hs.freezeRow 1 rfl
 have hs := hs.upd (t := 11) rfl hf; clear hf
 refine hs.s fun hs => nn <| wp_seq <| sr ?_
 refine hs.o .la fun hs => ?_
 refine hs.o (.c1 (c_spec_ServerOk ..)) fun hs => hs.o .nt fun hs => nn ?_
 refine hs.cd (fun hb1 => ?_) fun hb1 => ?_
 ·exfalso; rw [hok] at hb1; cases hb1
  skip
 ·skip
  refine wp_skip <| then_n <| sr ?_
  refine hs.o .la fun hs => ?_
  refine hs.o (.c1 (c_spec_l21Copy s hg.small)) fun hs => hs.alloc rfl ty89 zc89 fun b7 I a w hs => ?_
  refine hs.sb 2 fun hs => ?_
  refine nn <| wp_seq <| sr <| hs.o .fp fun hs => hs.o .l1 fun hs => hs.o .nt fun hs => hs.m fun hs => ?_
  refine hs.q .F .la fun hs => ?_
  refine hs.q .F (.cl (c_spec_WordOk ..)) fun hs => ?_
  refine hs.q .F (.ntx .ag) fun hs => ?_
  refine hs.o .or fun hs => hs.m fun hs => hs.q .F .fp fun hs => ?_
  refine hs.q .F (.lx .ag) fun hs => ?_
  refine hs.q .F .fp fun hs => ?_
  refine hs.q .F (.lx .ag) fun hs => ?_
  refine hs.q .F (ok_nei .ag .ag) fun hs => ?_
  refine hs.o .or fun hs => nn ?_
  refine hs.cd (fun hb2 => ?_) fun hb2 => ?_
  ·rw [hear_test] at hb2; replace hb2 := nt hb2
   refine sr <| hs.o (.ls 2) fun hs => hs.m fun hs => ?_
   refine hs.sb 0 fun hs => ?_
   refine hs.s fun hs => nn <| wp_ret <| then_r ?_
   refine hs.ret rfl (.cons (.s 0 ty89 rfl rfl (by first | rfl | assumption)) (.cons (by first | exact .t rfl | exact .nil rfl) ResL.nil)) ?_
   exact (by unfold serverHear; rw [hb2]; rfl)
  ·rw [hear_test] at hb2; replace hb2 := nf hb2; have hm := (hear_parts hb2).2
   refine wp_skip <| then_n <| sr <| hs.m fun hs => hs.s fun hs => nn ?_
   refine St.cut (σ := Server × List Word) (run 3 8 (run 77 37 [])) ⟨fun ⟨u, ws⟩ => [(8, wordsAV ws)], fun ⟨u, ws⟩ => [Own.box b4 89 [AV.val (.int .i64 0), AV.val (.bool false), AV.rows 2 [], AV.rows 7 [], AV.rows 7 [], AV.rows 3 [], AV.rows 3 []], Own.gone, Own.box b7 89 u.cells], fun ⟨u, ws⟩ => hearS s m = (u, ws)⟩ hs ?cutA8 ?cutB8
   case cutA8 =>
    refine sr <| hs.o .fp fun hs => hs.o .l1 fun hs => nn <| wp_block <| sr <| hs.o .eqic fun hs => hs.s fun hs => nn ?_
    refine hs.cd (fun hb3 => ?_) fun hb3 => ?_
    ·try simp only [B] at hb3
     refine St.region <| hs.o (.ls 2) fun hs => ?_
     refine hs.o .la fun hs => ?_
     refine hs.o (.c2 (c_spec_l22Put s m hg hm)) fun hs => hs.m fun hs => ?_
     refine hs.o .e fun hs => hs.o .e fun hs => ?_
     refine hs.sb 2 fun hs => ?_
     refine hs.s fun hs => wpList_nil <| block_n <| then_n ?_
     have hs := hs.drop 3
     exact hs.me ((hearPut s m).1, (hearPut s m).2) (by first | exact hearS_1 hb3 | exact hearS_3 hb4 | exact hearS_5 hb5 | exact hearS_6 hb6 | exact hearS_7t hb7 hb8 hso.vers | exact hearS_7f hb7 hb8 hso.vers | exact hearS_8 hb9 | exact hearS_9 hb10 | exact hearS_10 hb11 | exact hearS_0 hb3 hb4 hb5 hb6 hb7 hb9 hb10 hb11)
    ·try simp only [B] at hb3
     refine sr <| hs.o .eqic fun hs => hs.s fun hs => nn ?_
     refine hs.cd (fun hb4 => ?_) fun hb4 => ?_
     ·try simp only [B] at hb4
      refine St.region <| hs.o (.ls 2) fun hs => ?_
      refine hs.o .la fun hs => ?_
      refine hs.o (.c2 (c_spec_l22Get s m hok)) fun hs => hs.s fun hs => wpList_nil <| block_n <| then_n ?_
      have hs := hs.drop 3
      exact hs.me (s, hearGet s m) (by first | exact hearS_1 hb3 | exact hearS_3 hb4 | exact hearS_5 hb5 | exact hearS_6 hb6 | exact hearS_7t hb7 hb8 hso.vers | exact hearS_7f hb7 hb8 hso.vers | exact hearS_8 hb9 | exact hearS_9 hb10 | exact hearS_10 hb11 | exact hearS_0 hb3 hb4 hb5 hb6 hb7 hb9 hb10 hb11)
     ·try simp only [B] at hb4
      refine sr <| hs.o .eqic fun hs => hs.s fun hs => nn ?_
      refine hs.cd (fun hb5 => ?_) fun hb5 => ?_
      ·try simp only [B] at hb5
       refine St.region <| hs.o (.ls 2) fun hs => ?_
       refine hs.o .la fun hs => ?_
       refine hs.o (.c2 (c_spec_l22Rep s m hg hm)) fun hs => hs.m fun hs => ?_
       refine hs.o .e fun hs => hs.o .e fun hs => ?_
       refine hs.sb 2 fun hs => ?_
       refine hs.s fun hs => wpList_nil <| block_n <| then_n ?_
       have hs := hs.drop 3
       exact hs.me ((hearRep s m).1, (hearRep s m).2) (by first | exact hearS_1 hb3 | exact hearS_3 hb4 | exact hearS_5 hb5 | exact hearS_6 hb6 | exact hearS_7t hb7 hb8 hso.vers | exact hearS_7f hb7 hb8 hso.vers | exact hearS_8 hb9 | exact hearS_9 hb10 | exact hearS_10 hb11 | exact hearS_0 hb3 hb4 hb5 hb6 hb7 hb9 hb10 hb11)
      ·try simp only [B] at hb5
       refine sr <| hs.o .eqic fun hs => hs.s fun hs => nn ?_
       refine hs.cd (fun hb6 => ?_) fun hb6 => ?_
       ·try simp only [B] at hb6
        refine St.region <| hs.o (.ls 2) fun hs => ?_
        refine hs.o .la fun hs => ?_
        refine hs.o (.c2 (c_spec_l22Paid s m hso (debts_len hg.owes) hm)) fun hs => ?_
        refine hs.sb 2 fun hs => ?_
        refine wpList_nil <| block_n <| then_n ?_
        have hs := hs.drop 3
        exact hs.me (hearPaid s m, []) (by first | exact hearS_1 hb3 | exact hearS_3 hb4 | exact hearS_5 hb5 | exact hearS_6 hb6 | exact hearS_7t hb7 hb8 hso.vers | exact hearS_7f hb7 hb8 hso.vers | exact hearS_8 hb9 | exact hearS_9 hb10 | exact hearS_10 hb11 | exact hearS_0 hb3 hb4 hb5 hb6 hb7 hb9 hb10 hb11)
       ·try simp only [B] at hb6
        refine sr <| hs.o .eqic fun hs => hs.s fun hs => nn ?_
        refine hs.cd (fun hb7 => ?_) fun hb7 => ?_
        ·try simp only [B] at hb7
         refine sr <| hs.o .fp fun hs => hs.o .l1 fun hs => hs.o .fp fun hs => hs.o .l1 fun hs => hs.o .fp fun hs => ?_
         refine hs.o .la fun hs => ?_
         refine hs.o (.cl (c_spec_ChainAt ..)) fun hs => ?_
         refine hs.m fun hs => ?_
         refine hs.o .e fun hs => hs.o .e fun hs => hs.alloc rfl ty173 zc173 fun b9 I a w hs => ?_
         refine hs.sb 3 fun hs => ?_
         obtain ⟨I, hs, hf⟩ := hs.freezeBox 3 rfl
         have hs := hs.upd (t := 9) rfl hf; clear hf
         refine hs.s fun hs => nn <| wp_seq <| hs.dk <| .o .mv <| .o .mv <| .q .T .fp ?_
         refine .q .T (.lx .ag) ?_
         refine .q .T .fp ?_
         refine .q .T (.lx .ag) ?_
         refine .q .T (.cl (c_spec_l21Twin _ hg.site)) ?_
         refine .q .T (ok_eqi .ag .ag) ?_
         refine .o .an <| .nil ?_
         intro I a w hs
         refine then_n ?_
         refine hs.cd (fun hb8 => ?_) fun hb8 => ?_
         ·skip
          refine St.region <| hs.o .fp fun hs => hs.o .l1 fun hs => hs.o .fp fun hs => hs.o .l1 fun hs => hs.o .fp fun hs => hs.o .l1 fun hs => hs.o .fp fun hs => ?_
          refine hs.o .la fun hs => ?_
          refine hs.o (.bd zc135 (.k (.k (.k (.k (.t Parts.nil)))))) fun hs => ?_
          refine hs.o (.li [(haveW s m).cells] zo135 (.u .nil)) fun hs => ?_
          refine hs.s fun hs => wpList_nil <| block_n <| then_n ?_
          have hs := hs.drop 3
          exact hs.me (s, [haveW s m]) (by first | exact hearS_1 hb3 | exact hearS_3 hb4 | exact hearS_5 hb5 | exact hearS_6 hb6 | exact hearS_7t hb7 hb8 hso.vers | exact hearS_7f hb7 hb8 hso.vers | exact hearS_8 hb9 | exact hearS_9 hb10 | exact hearS_10 hb11 | exact hearS_0 hb3 hb4 hb5 hb6 hb7 hb9 hb10 hb11)
         ·skip
          refine wp_skip <| block_n <| then_n ?_
          have hs := hs.drop 3
          exact hs.me (s, []) (by first | exact hearS_1 hb3 | exact hearS_3 hb4 | exact hearS_5 hb5 | exact hearS_6 hb6 | exact hearS_7t hb7 hb8 hso.vers | exact hearS_7f hb7 hb8 hso.vers | exact hearS_8 hb9 | exact hearS_9 hb10 | exact hearS_10 hb11 | exact hearS_0 hb3 hb4 hb5 hb6 hb7 hb9 hb10 hb11)
        ·try simp only [B] at hb7
         refine sr <| hs.o .eqic fun hs => hs.s fun hs => nn ?_
         refine hs.cd (fun hb9 => ?_) fun hb9 => ?_
         ·try simp only [B] at hb9
          refine St.region <| hs.o (.ls 2) fun hs => ?_
          refine hs.o .la fun hs => ?_
          refine hs.o (.c2 (c_spec_l22Have s m hso hg.site)) fun hs => ?_
          refine hs.sb 2 fun hs => ?_
          refine wpList_nil <| block_n <| then_n ?_
          have hs := hs.drop 3
          exact hs.me (hearHave s m, []) (by first | exact hearS_1 hb3 | exact hearS_3 hb4 | exact hearS_5 hb5 | exact hearS_6 hb6 | exact hearS_7t hb7 hb8 hso.vers | exact hearS_7f hb7 hb8 hso.vers | exact hearS_8 hb9 | exact hearS_9 hb10 | exact hearS_10 hb11 | exact hearS_0 hb3 hb4 hb5 hb6 hb7 hb9 hb10 hb11)
         ·try simp only [B] at hb9
          refine sr <| hs.o .eqic fun hs => hs.s fun hs => nn ?_
          refine hs.cd (fun hb10 => ?_) fun hb10 => ?_
          ·try simp only [B] at hb10
           refine St.region <| hs.o (.ls 2) fun hs => ?_
           refine hs.o .la fun hs => ?_
           refine hs.o (.c2 (c_spec_l22Bulk s m hg hm)) fun hs => hs.m fun hs => ?_
           refine hs.o .e fun hs => hs.o .e fun hs => ?_
           refine hs.sb 2 fun hs => ?_
           refine hs.s fun hs => wpList_nil <| block_n <| then_n ?_
           have hs := hs.drop 3
           exact hs.me ((hearBulk s m).1, (hearBulk s m).2) (by first | exact hearS_1 hb3 | exact hearS_3 hb4 | exact hearS_5 hb5 | exact hearS_6 hb6 | exact hearS_7t hb7 hb8 hso.vers | exact hearS_7f hb7 hb8 hso.vers | exact hearS_8 hb9 | exact hearS_9 hb10 | exact hearS_10 hb11 | exact hearS_0 hb3 hb4 hb5 hb6 hb7 hb9 hb10 hb11)
          ·try simp only [B] at hb10
           refine sr <| hs.o .eqic fun hs => hs.s fun hs => nn ?_
           refine hs.cd (fun hb11 => ?_) fun hb11 => ?_
           ·try simp only [B] at hb11
            refine St.region <| hs.o (.ls 2) fun hs => ?_
            refine hs.o .la fun hs => ?_
            refine hs.o (.c2 (c_spec_l22Gone s m hso hg.site (debts_len hg.owes) hm)) fun hs => ?_
            refine hs.sb 2 fun hs => ?_
            refine wpList_nil <| block_n <| then_n ?_
            have hs := hs.drop 3
            exact hs.me (hearGone s m, []) (by first | exact hearS_1 hb3 | exact hearS_3 hb4 | exact hearS_5 hb5 | exact hearS_6 hb6 | exact hearS_7t hb7 hb8 hso.vers | exact hearS_7f hb7 hb8 hso.vers | exact hearS_8 hb9 | exact hearS_9 hb10 | exact hearS_10 hb11 | exact hearS_0 hb3 hb4 hb5 hb6 hb7 hb9 hb10 hb11)
           ·try simp only [B] at hb11
            refine wp_skip <| block_n <| then_n ?_
            have hs := hs.drop 3
            exact hs.me (s, []) (by first | exact hearS_1 hb3 | exact hearS_3 hb4 | exact hearS_5 hb5 | exact hearS_6 hb6 | exact hearS_7t hb7 hb8 hso.vers | exact hearS_7f hb7 hb8 hso.vers | exact hearS_8 hb9 | exact hearS_9 hb10 | exact hearS_10 hb11 | exact hearS_0 hb3 hb4 hb5 hb6 hb7 hb9 hb10 hb11)
   case cutB8 =>
    rintro ⟨u, ws⟩ I a w hok hs
    have hu : SrvGood u := by have := hearS_good hg hm (hear_parts hb2).1; rw [hok] at this; exact this
    have hw : ∀ y ∈ ws, wordOk y = true := by have := hearS_words hg hm; rw [hok] at this; exact this
    refine sr <| hs.o (.ls 2) fun hs => hs.o (.c1 (c_spec_l21Copy u hu.small)) fun hs => hs.m fun hs => ?_
    refine hs.o (ok_call (c_spec_l11Words ws (by have := hearS_len s m; rw [hok] at this; have : ws.length ≤ 1 := this; omega) (fun y hy => small_ok (hw y hy))) (args_cons .r args_nil)) fun hs => ?_
    refine hs.sb 0 fun hs => ?_
    refine hs.s fun hs => nn <| wp_ret ?_
    refine hs.ret rfl (.cons (.s 0 ty89 rfl rfl (by first | rfl | assumption)) (.cons (by first | exact .t rfl | exact .nil rfl) ResL.nil)) ?_
    exact (by unfold serverHear; rw [hb2, if_pos rfl, hok]; rfl)
theorem repsK_zero {s : Server} {k : Nat} (h : k = 3) : bulksK s k = repsK s 0 := by subst h; simp [repsK]
theorem askWs_zero {s : Server} {k : Nat} (h : k = s.owes.length) : repsK s k = askWs s (askK s 0) := by
  subst h; unfold askWs; rw [show askK s 0 = [] from rfl]; simp
theorem repW_snoc {s : Server} {k j : Nat} {v : Ver} (hst : standOf s (elt s.owes k).key = 1) (hv : atV s.vers (elt s.owes k) = some v) (hj : j < 2) : repsK s k ++ (repWs s (elt s.owes k)).take j ++ [{ word0 with kind := 5, frm := s.site, to := 2 - 2 * siteSide s.site + (j : Int), vers := [v] }] = repsK s k ++ (repWs s (elt s.owes k)).take (j + 1) := by
  rw [List.append_assoc, ← repWs_elt hst hv hj, ← take_elt (by rw [repWs_two hst]; exact hj)]
theorem repW_all {s : Server} {k j : Nat} (hk : k < s.owes.length) (hj : 2 ≤ j) : repsK s k ++ (repWs s (elt s.owes k)).take j = repsK s (k + 1) := by
  rw [repsK_succ hk, List.take_of_length_le (by have := repWs_len s (elt s.owes k); omega)]
theorem repW_no {s : Server} {k : Nat} {v : Ver} (hk : k < s.owes.length) (hvk : v.key = (elt s.owes k).key) (h : ¬ (elt s.slots (verSlot v.key).toNat).stand = 1) : repsK s k = repsK s (k + 1) := by
  rw [repsK_succ hk, repWs_no (by unfold standOf; rw [← hvk]; exact h), List.append_nil]
def startK (site k : Nat) : List Slot := (List.range k).map fun i => if i % 2 = site % 2 then ⟨1, 1⟩ else ⟨0, 0⟩
theorem startK_yes {site k : Nat} (h : (k : Int) % 2 = (site : Int) % 2) : startK site k ++ [⟨1, 1⟩] = startK site (k + 1) := by
  unfold startK; rw [List.range_succ, List.map_append, List.map_singleton, if_pos (by omega)]
theorem startK_no {site k : Nat} (h : ¬ (k : Int) % 2 = (site : Int) % 2) : startK site k ++ [⟨0, 0⟩] = startK site (k + 1) := by
  unfold startK; rw [List.range_succ, List.map_append, List.map_singleton, if_neg (by omega)]
theorem startK_len (site k : Nat) : (startK site k).length = k := by simp [startK]
theorem move_test (s : Server) (slot : Int) : (!s.up || !inB slot 0 2 || ((elt s.slots slot.toNat).stand != 1) || decide (9999 ≤ (elt s.slots slot.toNat).epoch)) = !moveOk s slot := by
  have e : decide (9999 ≤ (elt s.slots slot.toNat).epoch) = !decide ((elt s.slots slot.toNat).epoch < 9999) := by rw [Bool.eq_iff_iff]; simp
  unfold moveOk
  rw [e]; simp [bne]
set_option maxHeartbeats 4000000 in
theorem c_spec_ServerTend (s : Server) (hg : SrvGood s) :
    Fn Tryz.prog 98 [s.av] (wordsAV (tendS s)) := by
 refine Fn.intro 155 Tryz.func98 rfl Tryz.ntmps98 rfl (by kernel_rfl) (fun W I a hs => ?_)
 have hok := serverOk_iff.2 hg
 have hso := hg.ok
 have lens : s.slots.length ≤ 9223372036854775807 ∧ s.vers.length ≤ 9223372036854775807 ∧ s.waits.length ≤ 9223372036854775807 ∧ s.owes.length ≤ 9223372036854775807 ∧ s.knows.length ≤ 9223372036854775807 := by
    obtain ⟨cs, _, hc⟩ := hs.env 0 _ rfl
    obtain ⟨u0, _, h0, _⟩ := hc.get (i := 2) rfl
    obtain ⟨u1, _, h1, _⟩ := hc.get (i := 3) rfl
    obtain ⟨u2, _, h2, _⟩ := hc.get (i := 4) rfl
    obtain ⟨u3, _, h3, _⟩ := hc.get (i := 5) rfl
    obtain ⟨u4, _, h4, _⟩ := hc.get (i := 6) rfl
    exact ⟨rows_le h0, rows_le h1, rows_le h2, rows_le h3, rows_le h4⟩
 have h3 := hg.slots
 have hl80 := chain_len hg.vers
 have hwl := chain_len hg.waits
 have hol := debts_len hg.owes
 have hd6 : ∀ v ∈ s.waits, v.deps.length ≤ 6 := fun v hv => depsOk_len6 (verOk_parts (chain_all hg.waits v hv)).2.2
 have hsd := siteSide_range hg.site
 refine sr <| hs.o .bp fun hs => hs.sc fun hs => nn <| sr ?_
 refine hs.lit0 rfl un37 ty135 (by decide) fun b14 I a w hs => ?_
 refine hs.s fun hs => nn <| wp_seq <| sr ?_
 refine hs.o .la fun hs => ?_
 refine hs.o (.c1 (c_spec_ServerOk ..)) fun hs => hs.o .nt fun hs => hs.m fun hs => hs.q .F .fp fun hs => ?_
 refine hs.q .F (.lx .ag) fun hs => ?_
 refine hs.q .F (.ntx .ag) fun hs => ?_
 refine hs.o .or fun hs => nn ?_
 refine hs.cd (fun hb1 => ?_) fun hb1 => ?_
 ·rw [tend_test] at hb1; replace hb1 := nt hb1
  refine sr <| hs.m fun hs => hs.s fun hs => nn <| wp_ret <| then_r ?_
  obtain ⟨I, hs, hf⟩ := hs.freezeRow 0 rfl
  have hs := hs.upd (t := 2) rfl hf; clear hf
  refine hs.rt ?_
  exact (by rw [hok, Bool.true_and] at hb1; rw [tendS_down hb1]; rfl)
 ·rw [tend_test] at hb1; replace hb1 := nf hb1; rw [Bool.and_eq_true] at hb1
  refine wp_skip <| then_n <| wp_seq <| sr <| hs.sc fun hs => nn <| wp_block ?_
  refine St.lo (σ := Nat × Value) (run 2 3 (run 20 24 [])) ⟨fun ⟨n, v⟩ => [(4, AV.int n), (3, AV.val v)], fun ⟨n, v⟩ => [Own.row v 135 15 ((bulksK s n).map Word.cells)], fun ⟨n, v⟩ => n ≤ s.slots.length⟩ (fun ⟨n, v⟩ => s.slots.length - n) (0, .slice (some ⟨b14, 0, none⟩) 0 0) hs ?ok1 ?round1
  case ok1 => exact Nat.zero_le _
  case round1 =>
   rintro ⟨n, v⟩ I a w hok hs
   have hn : n ≤ s.slots.length := hok
   change St _ _ [Own.row v 135 15 ((bulksK s n).map Word.cells)] _ _ _ at hs
   refine wp_seq <| sr <| hs.m fun hs => hs.o .fp fun hs => hs.o .l1 fun hs => ?_
   refine hs.o .ln fun hs => ?_
   refine hs.o .lss fun hs => nn ?_
   refine hs.cd (fun hb2 => ?_) fun hb2 => ?_
   ·try simp only [B] at hb2
    refine wp_skip <| then_n <| wp_seq <| wp_block <| sr <| hs.o .fp fun hs => hs.o .l1 fun hs => hs.m fun hs => ?_
    refine hs.o .ix fun hs => ?_
    refine hs.o .fp fun hs => hs.o .l1 fun hs => hs.o .eqic fun hs => nn ?_
    refine hs.cd (fun hb3 => ?_) fun hb3 => ?_
    ·try simp only [B] at hb3
     refine St.region <| hs.m fun hs => ?_
     refine hs.o .la fun hs => ?_
     refine hs.m fun hs => ?_
     refine hs.o (ok_call (c_spec_l21Bulk s (n : Int) hso.vers hso.waits hg.site h3 (by omega) hol) (args_cons (.t rfl) (args_cons (.t rfl) args_nil))) fun hs => ?_
     refine hs.o (.li [(bulkW s (n : Int)).cells] zo135 (.u .nil)) fun hs => ?_
     refine hs.append 0 rfl un37 ty135 rfl .tt .r rfl (by have := bulksK_len s n; simp; omega) fun v43 a w hs => ?_
     rw [snocD, bulksK_yes (by simpa using hb3)] at hs
     refine hs.s fun hs => wpList_nil <| block_n <| then_n <| St.region <| hs.m fun hs => ?_
     refine hs.o .ad fun hs => ?_
     refine hs.s fun hs => nn ?_
     exact hs.ag (n + 1, v43) (hb2)
    ·try simp only [B] at hb3
     refine wp_skip <| block_n <| then_n <| St.region <| hs.m fun hs => ?_
     refine hs.o .ad fun hs => ?_
     refine hs.s fun hs => nn ?_
     rw [bulksK_no (by simpa using hb3)] at hs
     exact hs.ag (n + 1, v) (hb2)
   ·try simp only [B] at hb2
    refine wp_exit <| then_x <| then_x <| block_hit <| then_n <| sr <| hs.o .fp fun hs => hs.o .l1 fun hs => hs.o (.c1 (c_spec_SiteSide ..)) fun hs => ?_
    refine hs.o (ok_mul .c .tt (fun _ => by omega)) fun hs => ?_
    refine hs.o .su fun hs => ?_
    refine hs.s fun hs => nn <| wp_seq <| wp_seq ?_
    rw [repsK_zero (by omega)] at hs
    refine St.region <| hs.sc fun hs => nn <| wp_block ?_
    refine St.lo (σ := Nat × Value) (3 :: (run 4 6 (run 49 49 []))) ⟨fun ⟨k, v⟩ => [(6, AV.int k), (3, AV.val v)], fun ⟨k, v⟩ => [Own.row v 135 15 ((repsK s k).map Word.cells)], fun ⟨k, v⟩ => k ≤ s.owes.length⟩ (fun ⟨k, v⟩ => s.owes.length - k) (0, v) hs ?ok2 ?round2
    case ok2 => exact Nat.zero_le _
    case round2 =>
     rintro ⟨k, v⟩ I a w hok hs
     have hk : k ≤ s.owes.length := hok
     change St _ _ [Own.row v 135 15 ((repsK s k).map Word.cells)] _ _ _ at hs
     refine wp_seq <| sr <| hs.m fun hs => hs.o .fp fun hs => hs.o .l1 fun hs => ?_
     refine hs.o .ln fun hs => ?_
     refine hs.o .lss fun hs => nn ?_
     refine hs.cd (fun hb4 => ?_) fun hb4 => ?_
     ·try simp only [B] at hb4
      refine wp_skip <| then_n <| wp_seq <| wp_block <| wp_seq ?_
      have hs := hs.ownGone
      refine hs.drawD [([], none), ([], none), ([], none), ([], none), ([], none), ([], none), ([], none), ([], none), ([], none), ([], none), ([], none), ([], none), ([], none), ([], none), ([], none), ([], none), ([], none), ([], none), ([1], some (1, [7])), ([1], some (1, [7])), ([], none)] (by kernel_rfl) (by kernel_rfl) rfl ?_
      refine .o .fp <| .o .l1 <| .o .fp <| .o .l1 <| .o .mv ?_
      refine .o .ix ?_
      refine .o .fp <| .o .l1 <| .o .fp <| .o .l1 <| .o .mv ?_
      refine .o .ix ?_
      refine .o .fp ?_
      refine .o .la ?_
      refine .o (.cl (c_spec_ChainAt ..)) ?_
      refine .o .mv <| .o .e <| .o .e <| RunD.alloc 1 rfl rfl ty173 zc173 <| RunD.storeN 1 rfl ty173 rfl .tt rfl rfl <| .o .as <| .nil ?_
      intro I a w hs
      obtain ⟨b7, hs⟩ := hs.openAt (d := 7) 1 rfl rfl
      obtain ⟨I, hs, hf⟩ := hs.freezeBox 1 rfl
      have hs := hs.upd (t := 7) rfl hf; clear hf
      obtain ⟨vd, hvd, hvk, hvm⟩ := owed_at hg (elt_mem hb4)
      have hva : chainAt s.vers ⟨(elt s.owes k).key, (elt s.owes k).stamp⟩ = some vd := by rw [chainAt_atV hg.vers]; exact hvd
      rw [show (chainAt s.vers ⟨(elt s.owes k).key, (elt s.owes k).stamp⟩).getD default = vd from by rw [hva]; rfl] at hs
      refine then_n <| wp_seq <| wp_seq <| hs.dk <| .o .fp <| .o .l1 <| .o .fp <| .o .l1 <| .o (.c1 (c_spec_VerSlot ..)) ?_
      refine .o ((by first | exact ok_idxN un85 ty100 .tt .tt (fun _ => by have := verSlot_range (verOk_key (chain_all hg.vers vd hvm)); omega) | exact ok_idxM un85 ty100 .tt .tt (fun _ => by have := verSlot_range (verOk_key (chain_all hg.vers vd hvm)); omega) | exact ok_idx un85 ty100 .tt .tt (fun _ => by have := verSlot_range (verOk_key (chain_all hg.vers vd hvm)); omega))) ?_
      refine .o .fp <| .o .l1 <| .o .neic <| .nil ?_
      intro I a w hs
      refine then_n ?_
      refine hs.cd (fun hb5 => ?_) fun hb5 => ?_
      ·try simp only [B] at hb5
       refine wp_exit <| then_x <| block_hit <| then_n <| St.region <| hs.m fun hs => ?_
       refine hs.o .ad fun hs => ?_
       refine hs.s fun hs => nn ?_
       have hs := hs.drop 1
       rw [repW_no hb4 hvk (by simpa using hb5)] at hs
       exact hs.ag (k + 1, v) (hb4)
      ·try simp only [B] at hb5
       refine wp_skip <| then_n <| wp_seq ?_
       rw [show repsK s k = repsK s k ++ (repWs s (elt s.owes k)).take 0 from by simp] at hs
       refine St.region <| hs.sc fun hs => nn <| wp_block ?_
       refine St.lo (σ := Nat × Value) (3 :: (9 :: (run 15 83 []))) ⟨fun ⟨j, v2⟩ => [(9, AV.int j), (3, AV.val v2)], fun ⟨j, v2⟩ => [Own.row v2 135 15 ((repsK s k ++ (repWs s (elt s.owes k)).take j).map Word.cells), Own.gone], fun ⟨j, v2⟩ => j ≤ 2⟩ (fun ⟨j, v2⟩ => 2 - j) (0, v) hs ?ok3 ?round3
       case ok3 => exact Nat.zero_le _
       case round3 =>
        rintro ⟨j, v2⟩ I a w hok hs
        have hj : j ≤ 2 := hok
        change St _ _ [Own.row v2 135 15 ((repsK s k ++ (repWs s (elt s.owes k)).take j).map Word.cells), Own.gone] _ _ _ at hs
        refine wp_seq <| sr <| hs.m fun hs => hs.o .lssc fun hs => nn ?_
        refine hs.cd (fun hb6 => ?_) fun hb6 => ?_
        ·try simp only [B] at hb6
         refine wp_skip <| then_n <| wp_seq <| wp_block <| St.region <| hs.m fun hs => hs.o .fp fun hs => hs.o .l1 fun hs => hs.m fun hs => hs.m fun hs => ?_
         refine hs.o .ad fun hs => ?_
         refine hs.o .la fun hs => ?_
         refine hs.o (.li [vd.cells] zo173 (.u .nil)) fun hs => ?_
         refine hs.o (.bd zc135 (.k (.k (.k (.k Parts.nil))))) fun hs => ?_
         refine hs.o (.li [({ word0 with kind := 5, frm := s.site, to := 2 - 2 * siteSide s.site + (j : Int), vers := [vd] } : Word).cells] zo135 (.u .nil)) fun hs => ?_
         refine hs.append 0 rfl un37 ty135 rfl .tt .r rfl (by have := repsK_len s k hk; simp; omega) fun v97 a w hs => ?_
         rw [snocD, repW_snoc (by unfold standOf; rw [← hvk]; simpa using hb5) hvd (by omega)] at hs
         refine hs.s fun hs => wpList_nil <| block_n <| then_n <| St.region <| hs.m fun hs => ?_
         refine hs.o .ad fun hs => ?_
         refine hs.s fun hs => nn ?_
         exact hs.ag (j + 1, v97) (by show j + 1 ≤ 2; omega)
        ·try simp only [B] at hb6
         refine wp_exit <| then_x <| then_x <| block_hit <| block_n <| then_n <| St.region <| hs.m fun hs => ?_
         refine hs.o .ad fun hs => ?_
         refine hs.s fun hs => nn ?_
         have hs := hs.drop 1
         rw [repW_all hb4 (by omega)] at hs
         exact hs.ag (k + 1, v2) (hb4)
     ·try simp only [B] at hb4
      refine wp_exit <| then_x <| then_x <| block_hit <| then_n <| sr ?_
      refine hs.lit0 rfl un87 ty165 (by decide) fun b98 I a w hs => ?_
      refine hs.s fun hs => nn <| wp_seq <| wp_seq ?_
      rw [askWs_zero (by omega)] at hs
      refine St.region <| hs.sc fun hs => nn <| wp_block ?_
      refine St.lo (σ := Nat × Value × Value) (3 :: (run 4 10 (run 54 99 []))) ⟨fun ⟨i, v, u⟩ => [(11, AV.int i), (3, AV.val v), (10, AV.val u)], fun ⟨i, v, u⟩ => [Own.row v 135 15 ((askWs s (askK s i)).map Word.cells), Own.row u 165 3 ((askK s i).map Dep.cells)], fun ⟨i, v, u⟩ => i ≤ s.waits.length⟩ (fun ⟨i, v, u⟩ => s.waits.length - i) (0, v, .slice (some ⟨b98, 0, none⟩) 0 0) hs ?ok4 ?round4
      case ok4 => exact Nat.zero_le _
      case round4 =>
       rintro ⟨i, v, u⟩ I a w hok hs
       have hi : i ≤ s.waits.length := hok
       change St _ _ [Own.row v 135 15 ((askWs s (askK s i)).map Word.cells), Own.row u 165 3 ((askK s i).map Dep.cells)] _ _ _ at hs
       refine wp_seq <| sr <| hs.m fun hs => hs.o .fp fun hs => hs.o .l1 fun hs => ?_
       refine hs.o .ln fun hs => ?_
       refine hs.o .lss fun hs => nn ?_
       refine hs.cd (fun hb7 => ?_) fun hb7 => ?_
       ·try simp only [B] at hb7
        refine wp_skip <| then_n <| wp_seq <| wp_block <| sr <| hs.sc fun hs => nn <| wp_block ?_
        refine St.lo (σ := Nat × Value × Value) (3 :: (10 :: (run 2 12 (run 47 106 [])))) ⟨fun ⟨j, v2, u2⟩ => [(12, AV.int j), (3, AV.val v2), (10, AV.val u2)], fun ⟨j, v2, u2⟩ => [Own.row v2 135 15 ((askWs s (askJ s i j)).map Word.cells), Own.row u2 165 3 ((askJ s i j).map Dep.cells)], fun ⟨j, v2, u2⟩ => j ≤ (elt s.waits i).deps.length⟩ (fun ⟨j, v2, u2⟩ => (elt s.waits i).deps.length - j) (0, v, u) hs ?ok5 ?round5
        case ok5 => exact Nat.zero_le _
        case round5 =>
         rintro ⟨j, v2, u2⟩ I a w hok hs
         have hj : j ≤ (elt s.waits i).deps.length := hok
         have hdj := hd6 _ (elt_mem hb7)
         change St _ _ [Own.row v2 135 15 ((askWs s (askJ s i j)).map Word.cells), Own.row u2 165 3 ((askJ s i j).map Dep.cells)] _ _ _ at hs
         refine wp_seq <| sr <| hs.m fun hs => hs.o .fp fun hs => hs.o .l1 fun hs => hs.m fun hs => ?_
         refine hs.o .ix fun hs => ?_
         refine hs.o .fp fun hs => hs.o .l1 fun hs => ?_
         refine hs.o .ln fun hs => ?_
         refine hs.o .lss fun hs => nn ?_
         refine hs.cd (fun hb8 => ?_) fun hb8 => ?_
         ·try simp only [B] at hb8
          refine wp_skip <| then_n <| wp_seq <| wp_block <| sr <| hs.o .fp fun hs => hs.o .l1 fun hs => hs.m fun hs => ?_
          refine hs.o .ix fun hs => ?_
          refine hs.o .fp fun hs => hs.o .l1 fun hs => hs.m fun hs => ?_
          refine hs.o .ix fun hs => ?_
          refine hs.o .la fun hs => ?_
          refine hs.alloc rfl ty165 zc165 fun b13 I a w hs => ?_
          refine hs.sb 2 fun hs => ?_
          obtain ⟨I, hs, hf⟩ := hs.freezeBox 2 rfl
          have hs := hs.upd (t := 13) rfl hf; clear hf
          refine nn <| sr ?_
          refine hs.o .la fun hs => ?_
          refine hs.o .la fun hs => ?_
          refine hs.o (.c2 (c_spec_l21Seen s _ hso.vers)) fun hs => hs.o .nt fun hs => hs.m fun hs => hs.q .T .mv fun hs => ?_
          refine hs.q .T .la fun hs => ?_
          refine hs.q .T (ok_callB0 1 (args_cons .ag (args_cons .ag args_nil)) rfl (c_spec_l21Dep (askJ s i j) (elt (elt s.waits i).deps j)) (fun _ _ _ h => h)) fun hs => ?_
          refine hs.q .T (ok_lss .ag .c) fun hs => ?_
          refine hs.o .an fun hs => nn ?_
          refine hs.cd (fun hb9 => ?_) fun hb9 => ?_
          ·skip
           refine sr <| hs.m fun hs => ?_
           refine hs.o .la fun hs => ?_
           refine hs.o (.li [(elt (elt s.waits i).deps j).cells] zo165 (.u .nil)) fun hs => ?_
           refine hs.append 1 rfl un87 ty165 rfl .tt .r rfl (by have := askK_len hd6 i hi; have := askJ_len s i j; have := hd6 _ (elt_mem hb7); simp; omega) fun v139 a w hs => ?_
           rw [snocD, show askJ s i j ++ [(elt (elt s.waits i).deps j)] = askJ s i (j + 1) from by rw [askJ_succ hb8, askD_yes hb9]] at hs
           refine hs.s fun hs => nn ?_
           refine hs.drawT 12 (by kernel_rfl) (by kernel_rfl) (by kernel_rfl) ?_
           simp only [List.take_succ_cons, List.take_zero, List.drop_succ_cons, List.drop_zero]
           refine .o .mv <| .o .fp <| .o .l1 <| .o .fp <| .o .l1 <| .o (.c1 (c_spec_l21Twin _ hg.site)) <| .o .fp <| .o .l1 <| .o .fp ?_
           refine .o .la ?_
           refine .o (.bd zc135 (.k (.k (.k (.k (.t Parts.nil)))))) ?_
           refine .o (.li [(askW s (elt (elt s.waits i).deps j)).cells] zo135 (.u .nil)) ?_
           refine .nil ?_
           intro I a w hs
           refine hs.append 0 rfl un37 ty135 rfl .tt .r rfl (by have := askK_len hd6 i hi; have := askJ_len s i j; have := hd6 _ (elt_mem hb7); have := repsK_len s _ (Nat.le_refl s.owes.length); simp [askWs]; omega) fun v152 a w hs => ?_
           rw [snocD, askWs_snoc, show askJ s i j ++ [(elt (elt s.waits i).deps j)] = askJ s i (j + 1) from by rw [askJ_succ hb8, askD_yes hb9]] at hs
           refine hs.s fun hs => wpList_nil <| block_n <| then_n <| St.region <| hs.m fun hs => ?_
           refine hs.o .ad fun hs => ?_
           refine hs.s fun hs => nn ?_
           have hs := hs.drop 2
           exact hs.ag (j + 1, v152, v139) (hb8)
          ·skip
           refine wp_skip <| block_n <| then_n <| St.region <| hs.m fun hs => ?_
           refine hs.o .ad fun hs => ?_
           refine hs.s fun hs => nn ?_
           have hs := hs.drop 2
           rw [show askJ s i j = askJ s i (j + 1) from by rw [askJ_succ hb8, askD_no hb9]] at hs
           exact hs.ag (j + 1, v2, u2) (hb8)
         ·try simp only [B] at hb8
          refine wp_exit <| then_x <| then_x <| block_hit <| block_n <| then_n <| St.region <| hs.m fun hs => ?_
          refine hs.o .ad fun hs => ?_
          refine hs.s fun hs => nn ?_
          rw [askJ_all hb7 (by omega)] at hs
          exact hs.ag (i + 1, v2, u2) (hb7)
       ·try simp only [B] at hb7
        refine wp_exit <| then_x <| then_x <| block_hit <| then_n <| wp_seq ?_
        rw [askK_all s (by omega), tendS_eq hb1.2 h3] at hs
        obtain ⟨I, hs, hf⟩ := hs.freezeRow 0 rfl
        have hs := hs.upd (t := 3) rfl hf; clear hf
        refine St.region <| hs.m fun hs => ?_
        refine hs.o (ok_call (c_spec_l11Words (tendS s) (by have := tendS_len hg; omega) (fun y hy => small_ok (tendS_words hg y hy))) (args_cons .r args_nil)) fun hs => ?_
        refine hs.s fun hs => nn <| wp_ret ?_
        refine hs.rt ?_
        rfl
set_option maxHeartbeats 4000000 in
theorem c_spec_ServerStart (site : Nat) (h4 : site < 4) :
    Fn Tryz.prog 41 [AV.int (site : Int)] ((startS site).av) := by
 refine Fn.intro 30 Tryz.func41 rfl Tryz.ntmps41 rfl (by kernel_rfl) (fun W I a hs => ?_)
 have hsb : siteB (site : Int) = true := siteB_iff.2 (by omega)
 refine sr <| hs.alloc rfl ty89 zc89 fun b2 I a w hs => nn <| wp_seq <| sr <| hs.m fun hs => hs.o (.c1 (c_spec_l1Site ..)) fun hs => hs.o .nt fun hs => nn ?_
 refine hs.cd (fun hb1 => ?_) fun hb1 => ?_
 ·exfalso; rw [hsb] at hb1; cases hb1
  skip
 ·skip
  refine wp_skip <| then_n <| sr <| hs.m fun hs => ?_
  refine hs.o (.bd zx89 (.k (.k Parts.nil))) fun hs => ?_
  refine hs.alloc rfl ty89 zx89 fun b3 I a w hs => ?_
  refine hs.sb 1 fun hs => ?_
  refine wpList_nil ?_
  have hs := hs.ownNil (sz := 2) 100
  refine then_n <| wp_seq <| sr <| hs.sc fun hs => nn <| wp_block ?_
  refine St.lo (σ := Nat × Value) (run 2 4 (run 17 12 [])) ⟨fun ⟨k, v⟩ => [(4, AV.int k)], fun ⟨k, v⟩ => [Own.box b2 89 [AV.val (.int .i64 0), AV.val (.bool false), AV.rows 2 [], AV.rows 7 [], AV.rows 7 [], AV.rows 3 [], AV.rows 3 []], Own.box b3 89 [AV.int (site : Int), AV.bool true, AV.val v, AV.val (.slice none 0 0), AV.val (.slice none 0 0), AV.val (.slice none 0 0), AV.val (.slice none 0 0)], Own.row v 100 2 ((startK site k).map Slot.cells)], fun ⟨k, v⟩ => k ≤ 3⟩ (fun ⟨k, v⟩ => 3 - k) (0, .slice none 0 0) hs ?ok1 ?round1
  case ok1 => exact Nat.zero_le _
  case round1 =>
   rintro ⟨k, v⟩ I a w hok hs
   have hk : k ≤ 3 := hok
   change St _ _ [Own.box b2 89 [AV.val (.int .i64 0), AV.val (.bool false), AV.rows 2 [], AV.rows 7 [], AV.rows 7 [], AV.rows 3 [], AV.rows 3 []], Own.box b3 89 [AV.int (site : Int), AV.bool true, AV.val v, AV.val (.slice none 0 0), AV.val (.slice none 0 0), AV.val (.slice none 0 0), AV.val (.slice none 0 0)], Own.row v 100 2 ((startK site k).map Slot.cells)] _ _ _ at hs
   refine wp_seq <| sr <| hs.m fun hs => hs.o .lssc fun hs => nn ?_
   refine hs.cd (fun hb2 => ?_) fun hb2 => ?_
   ·try simp only [B] at hb2
    refine wp_skip <| then_n <| wp_seq <| wp_block <| sr ?_
    refine hs.o (.bd zc100 Parts.nil) fun hs => ?_
    refine hs.alloc rfl ty100 zc100 fun b5 I a w hs => ?_
    refine hs.sb 3 fun hs => ?_
    refine nn <| wp_seq <| sr <| hs.m fun hs => ?_
    refine hs.o (ok_rem .tt .c (fun _ => by omega)) fun hs => ?_
    refine hs.m fun hs => ?_
    refine hs.o (ok_rem .tt .c (fun _ => by omega)) fun hs => ?_
    refine hs.o .eqi fun hs => nn ?_
    refine hs.cd (fun hb3 => ?_) fun hb3 => ?_
    ·try simp only [B] at hb3
     refine St.region ?_
     refine hs.o (.bd zc100 (.k (.k Parts.nil))) fun hs => ?_
     refine hs.sb 3 fun hs => ?_
     refine nn <| St.region <| hs.o .fv fun hs => hs.o (.lb 1) fun hs => hs.o (.ls 3) fun hs => ?_
     refine hs.o (.li [Slot.cells ⟨1, 1⟩] zo100 (.u .nil)) fun hs => ?_
     refine hs.append 2 rfl un85 ty100 rfl .tt .r rfl (by rw [List.length_map, startK_len]; simp; omega) fun v27 a w hs => ?_
     refine hs.o .fv fun hs => ?_
     try have ho27 := hs.oneRow 2 rfl
     refine hs.s1 1 fun hs => ?_
     refine wpList_nil <| block_n <| then_n <| St.region <| hs.m fun hs => ?_
     refine hs.o .ad fun hs => ?_
     refine hs.s fun hs => nn ?_
     have hs := hs.drop 3
     rw [snocD, startK_yes (by simpa using hb3)] at hs
     exact hs.ag (k + 1, v27) (by show k + 1 ≤ 3; omega)
    ·try simp only [B] at hb3
     refine wp_skip <| then_n <| St.region <| hs.o .fv fun hs => hs.o (.lb 1) fun hs => hs.o (.ls 3) fun hs => ?_
     refine hs.o (.li [Slot.cells ⟨0, 0⟩] zo100 (.u .nil)) fun hs => ?_
     refine hs.append 2 rfl un85 ty100 rfl .tt .r rfl (by rw [List.length_map, startK_len]; simp; omega) fun v27 a w hs => ?_
     refine hs.o .fv fun hs => ?_
     try have ho27 := hs.oneRow 2 rfl
     refine hs.s1 1 fun hs => ?_
     refine wpList_nil <| block_n <| then_n <| St.region <| hs.m fun hs => ?_
     refine hs.o .ad fun hs => ?_
     refine hs.s fun hs => nn ?_
     have hs := hs.drop 3
     rw [snocD, startK_no (by simpa using hb3)] at hs
     exact hs.ag (k + 1, v27) (by show k + 1 ≤ 3; omega)
   ·try simp only [B] at hb2
    refine wp_exit <| then_x <| then_x <| block_hit <| then_n <| wp_seq ?_
    obtain ⟨I, hs, hf⟩ := hs.freezeRow 2 rfl
    have hs := hs.updBox (q := 2) 1 rfl rfl hf
    have hs := hs.updBox (q := 3) 1 rfl rfl (rows_nil 7 _)
    have hs := hs.updBox (q := 4) 1 rfl rfl (rows_nil 7 _)
    have hs := hs.updBox (q := 5) 1 rfl rfl (rows_nil 3 _)
    have hs := hs.updBox (q := 6) 1 rfl rfl (rows_nil 3 _)
    refine St.region <| hs.o (.ls 1) fun hs => ?_
    refine hs.sb 0 fun hs => ?_
    refine nn <| wp_ret ?_
    refine hs.ret rfl (.cons (.s 0 ty89 rfl rfl (by first | rfl | assumption)) ResL.nil) ?_
    have hk3 : k = 3 := by omega
    subst hk3
    rfl
set_option maxHeartbeats 4000000 in
theorem c_spec_ServerMove (s : Server) (slot : Int) (hg : SrvGood s) :
    Fn Tryz.prog 99 [s.av, AV.int slot] (AV.tup [(moveS s slot).1.av, (moveS s slot).2.1.av, AV.bool (moveS s slot).2.2]) := by
 refine Fn.intro 59 Tryz.func99 rfl Tryz.ntmps99 rfl (by kernel_rfl) (fun W I a hs => ?_)
 have hok := serverOk_iff.2 hg
 have hso := hg.ok
 have h3 := hg.slots
 have e9 : ∀ x, x = Slot.cells ⟨(elt s.slots slot.toNat).epoch + 1, 2⟩ → (List.map Slot.cells s.slots).set slot.toNat x = List.map Slot.cells (movedS s slot).slots := fun x h => by rw [h]; exact List.map_set.symm
 refine sr <| hs.o .bp fun hs => hs.alloc rfl ty89 zc89 fun b4 I a w hs => hs.alloc rfl ty135 zc135 fun b5 I a w hs => hs.sc fun hs => nn <| wp_seq <| sr ?_
 refine hs.o .la fun hs => ?_
 refine hs.o (.c1 (c_spec_ServerOk ..)) fun hs => hs.o .nt fun hs => nn ?_
 refine hs.cd (fun hb1 => ?_) fun hb1 => ?_
 ·exfalso; rw [hok] at hb1; cases hb1
  skip
 ·skip
  refine wp_skip <| then_n <| sr ?_
  refine hs.o .la fun hs => ?_
  refine hs.callE [] (c_spec_l21CopyO s hg.small) (args_cons .tt args_nil) rfl (by decide) rfl fun v14 I a w hok14 hs => ?_
  refine hs.alloc rfl ty89 zc89 fun b7 I a w hs => ?_
  refine hs.sb 3 fun hs => ?_
  refine nn <| wp_seq <| sr <| hs.o .fp fun hs => hs.o .l1 fun hs => hs.o .nt fun hs => hs.m fun hs => hs.q .F .mv fun hs => ?_
  refine hs.q .F (.cl (c_spec_l6In ..)) fun hs => ?_
  refine hs.q .F (.ntx .ag) fun hs => ?_
  refine hs.o .or fun hs => hs.m fun hs => hs.q .F .fp fun hs => ?_
  refine hs.q .F (.lx .ag) fun hs => ?_
  refine hs.q .F .mv fun hs => ?_
  refine hs.q .F ((by first | exact ok_idxN un85 ty100 .ag .ag (fun hg => by simp [inB] at hg; omega) | exact ok_idxM un85 ty100 .ag .ag (fun hg => by simp [inB] at hg; omega) | exact ok_idx un85 ty100 .ag .ag (fun hg => by simp [inB] at hg; omega))) fun hs => ?_
  refine hs.q .F (.fx .ag) fun hs => ?_
  refine hs.q .F (.lx .ag) fun hs => ?_
  refine hs.q .F (ok_nei .ag .c) fun hs => ?_
  refine hs.o .or fun hs => hs.m fun hs => hs.q .F .fp fun hs => ?_
  refine hs.q .F (.lx .ag) fun hs => ?_
  refine hs.q .F .mv fun hs => ?_
  refine hs.q .F ((by first | exact ok_idxN un85 ty100 .ag .ag (fun hg => by simp [inB] at hg; omega) | exact ok_idxM un85 ty100 .ag .ag (fun hg => by simp [inB] at hg; omega) | exact ok_idx un85 ty100 .ag .ag (fun hg => by simp [inB] at hg; omega))) fun hs => ?_
  refine hs.q .F (.fx .ag) fun hs => ?_
  refine hs.q .F (.lx .ag) fun hs => ?_
  refine hs.q .F (ok_geq .ag .c) fun hs => ?_
  refine hs.o .or fun hs => nn ?_
  refine hs.cd (fun hb2 => ?_) fun hb2 => ?_
  ·rw [move_test] at hb2; replace hb2 := nt hb2
   obtain ⟨I, hs, hf⟩ := hs.freezeRow 2 rfl
   have hs := hs.updBox (q := 2) 3 rfl rfl hf
   refine sr <| hs.o (.ls 3) fun hs => ?_
   refine hs.o (.bd zc135 Parts.nil) fun hs => ?_
   refine hs.sb 0 fun hs => ?_
   refine hs.sb 1 fun hs => ?_
   refine hs.sc fun hs => nn <| wp_ret <| then_r ?_
   refine hs.ret rfl (.cons (.s 0 ty89 rfl rfl (by first | rfl | assumption)) (.cons (.s 1 ty135 rfl rfl (by first | rfl | assumption)) (.cons (.t rfl) ResL.nil))) ?_
   exact (by unfold moveS; rw [hb2]; rfl)
  ·rw [move_test] at hb2; replace hb2 := nf hb2; have hmp := moveOk_parts hb2; have hsr := slotGood_iff.1 (slotGood_elt hg (i := slot.toNat) (by omega)); have hmg := movedS_good hg hb2
   refine wp_skip <| then_n <| wp_seq ?_
   obtain ⟨b14, cap14, e14⟩ := hs.rowBlock 2 rfl (by simp only [List.length_map]; omega)
   subst e14
   refine hs.drawT 12 (by kernel_rfl) (by kernel_rfl) (by kernel_rfl) ?_
   simp only [List.take_succ_cons, List.take_zero, List.drop_succ_cons, List.drop_zero]
   refine .o .fv <| .o (.lb 3) <| .o .mv <| .o .fp <| .o .l1 <| .o .mv ?_
   refine .o .ix ?_
   refine .o .fp <| .o .l1 ?_
   refine .o .ad ?_
   refine .o (.bd zc100 (.k (.k Parts.nil))) ?_
   refine .o (ok_idxO un85 ty100 .tt .tt (fun _ => by simp only [List.length_map]; omega)) ?_
   refine .nil ?_
   intro I a w hs
   refine hs.storeRS 2 ty100 .tt .tt rfl (by exact map_get (by omega)) rfl rfl fun a w hs => ?_
   refine nn <| wp_seq ?_
   rw [e9] at hs
   rotate_left
   ·rfl
   obtain ⟨I, hs, hf⟩ := hs.freezeRow 2 rfl
   have hs := hs.updBox (q := 2) 3 rfl rfl hf
   refine hs.drawT 4 (by kernel_rfl) (by kernel_rfl) (by kernel_rfl) ?_
   simp only [List.take_succ_cons, List.take_zero, List.drop_succ_cons, List.drop_zero]
   refine .o (.ls 3) <| .o (.ls 3) <| .o .mv ?_
   refine .o (ok_call (c_spec_l21Bulk (movedS s slot) slot hmg.vers hmg.waits hg.site hmg.slots (by omega) (debts_len hg.owes)) (args_cons (.t rfl) (args_cons (.t rfl) args_nil))) ?_
   refine .nil ?_
   intro I a w hs
   refine hs.sb 0 fun hs => ?_
   refine hs.sb 1 fun hs => ?_
   refine hs.sc fun hs => nn <| wp_ret ?_
   refine hs.ret rfl (.cons (.s 0 ty89 rfl rfl (by first | rfl | assumption)) (.cons (.s 1 ty135 rfl rfl (by first | rfl | assumption)) (.cons (.t rfl) ResL.nil))) ?_
   exact (by unfold moveS; rw [hb2]; rfl)
end Go.Proofs.YtkoebplikhlapaaGreatDoor
