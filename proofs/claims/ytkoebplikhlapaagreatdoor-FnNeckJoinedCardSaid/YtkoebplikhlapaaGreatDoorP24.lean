/- Part 24: rules of the proofs, contracts of functions, plain facts. -/
import Derived.Test.YtkoebplikhlapaaGreatDoorP23
set_option linter.unusedVariables false
set_option linter.unusedSimpArgs false
set_option maxRecDepth 100000
namespace Go.Proofs.YtkoebplikhlapaaGreatDoor
open Go Go.RowKit
theorem pairwise_elt {α : Type} [Inhabited α] {R : α → α → Prop} {l : List α} (h : l.Pairwise R) {i j : Nat} (hij : i < j) (hj : j < l.length) : R (elt l i) (elt l j) := by
  rw [List.pairwise_iff_getElem] at h
  have := h i j (by omega) hj hij
  have e : ∀ k (hk : k < l.length), l[k] = elt l k := fun k hk => by simp [elt, hk]
  rwa [e i (by omega), e j hj] at this
theorem linked_iff {α : Type} [Inhabited α] {good : α → Bool} {less : α → α → Bool} (tr : ∀ {a b d}, less a b = true → less b d = true → less a d = true) {l : List α} :
    allN l.length (linkB good less l) = true ↔ (∀ x ∈ l, good x = true) ∧ l.Pairwise fun a b => less a b = true := by
  rw [allN_iff]
  constructor
  · intro h
    refine ⟨fun x hx => ?_, pairwise_adj (R := fun a b => less a b = true) (fun h1 h2 => tr h1 h2) fun i h0 hi => ?_⟩
    · obtain ⟨k, hk, rfl⟩ := mem_elt hx
      have := h k hk
      unfold linkB at this; rw [Bool.and_eq_true] at this; exact this.1
    · have := h i hi
      unfold linkB at this
      rw [Bool.and_eq_true, Bool.or_eq_true, decide_eq_true_eq] at this
      rcases this.2 with h3 | h3
      · omega
      · exact h3
  · rintro ⟨h1, h2⟩ i hi
    unfold linkB
    rw [Bool.and_eq_true, Bool.or_eq_true, decide_eq_true_eq]
    refine ⟨h1 _ (elt_mem hi), ?_⟩
    rcases Nat.eq_zero_or_pos i with h | h
    · exact Or.inl h
    · exact Or.inr (pairwise_elt h2 (by omega) hi)
theorem verLess_trans {a b d : Ver} (h : verLess a b = true) (h' : verLess b d = true) : verLess a d = true := depLess_trans h h'
theorem chain_iff {l : List Ver} : chainOk l = true ↔ l.length ≤ 80 ∧ (∀ v ∈ l, verOk v = true) ∧ VS l := by
  unfold chainOk
  rw [Bool.and_eq_true, decide_eq_true_eq, linked_iff (less := verLess) (fun h1 h2 => verLess_trans h1 h2)]; rfl
theorem debts_iff {l : List Dep} : debtsOk l = true ↔ l.length ≤ 80 ∧ (∀ d ∈ l, debtOk d = true) ∧ l.Pairwise fun a b => depLess a b = true := by
  unfold debtsOk
  rw [Bool.and_eq_true, decide_eq_true_eq, linked_iff (less := depLess) (fun h1 h2 => depLess_trans h1 h2)]
theorem chain_ins {l : List Ver} {v : Ver} (h : chainOk l = true) (hv : verOk v = true) (hp : placeOf l v.dep < 0) (hl : l.length < 80) : chainOk (insV l v) = true := by
  obtain ⟨h1, h2, h3⟩ := chain_iff.1 h
  refine chain_iff.2 ⟨by rw [insV_len]; omega, fun x hx => ?_, insV_sorted h3 (place_neg hp)⟩
  rcases insV_mem.1 hx with rfl | hx
  · exact hv
  · exact h2 x hx
theorem chain_sub {l m : List Ver} (h : chainOk l = true) (hs : m.Sublist l) : chainOk m = true := by
  obtain ⟨h1, h2, h3⟩ := chain_iff.1 h
  exact chain_iff.2 ⟨Nat.le_trans hs.length_le h1, fun x hx => h2 x (hs.subset hx), h3.sublist hs⟩
theorem debts_sub {l m : List Dep} (h : debtsOk l = true) (hs : m.Sublist l) : debtsOk m = true := by
  obtain ⟨h1, h2, h3⟩ := debts_iff.1 h
  exact debts_iff.2 ⟨Nat.le_trans hs.length_le h1, fun x hx => h2 x (hs.subset hx), h3.sublist hs⟩
theorem without_sub {α : Type} (l : List α) (n : Nat) : (l.take n ++ l.drop (n + 1)).Sublist l := by
  have e : l = l.take n ++ l.drop n := (List.take_append_drop n l).symm
  conv => rhs; rw [e]
  refine List.Sublist.append (List.Sublist.refl _) ?_
  rw [← List.drop_drop]
  exact List.drop_sublist 1 _
theorem serverOk_sok {s : Server} (h : serverOk s = true) : SrvOk s := by
  obtain ⟨h1, h2, h3, h4, h5, h6⟩ := serverOk_parts h
  refine ⟨h1, h2, h3, fun v hv => ?_, debts_len h5⟩
  simp only [serverOk, Bool.and_eq_true] at h
  obtain ⟨k, hk, rfl⟩ := mem_elt hv
  have := (allN_iff.1 h.1.2) k hk
  simp only [waitAt, waitGood, Bool.and_eq_true, decide_eq_true_eq] at this
  exact this.2
theorem VS_ne {l : List Ver} (h : VS l) {i j : Nat} (hi : i < l.length) (hj : j < l.length) (hne : i ≠ j) : (elt l i).dep ≠ (elt l j).dep := fun e => by
  rcases Nat.lt_or_gt_of_ne hne with hlt | hlt
  · have := pairwise_elt h hlt hj
    unfold verLess at this; rw [e, depLess_irrefl] at this; cases this
  · have := pairwise_elt h hlt hi
    unfold verLess at this; rw [e, depLess_irrefl] at this; cases this
theorem without_elt {α : Type} [Inhabited α] {l : List α} {n : Nat} {x : α} (h : x ∈ l.take n ++ l.drop (n + 1)) : ∃ k, k < l.length ∧ k ≠ n ∧ elt l k = x := by
  rcases List.mem_append.1 h with h | h
  · obtain ⟨k, hk, rfl⟩ := List.getElem_of_mem h
    have hk' : k < n ∧ k < l.length := by simp at hk; omega
    exact ⟨k, hk'.2, by omega, by simp [elt, hk'.2]⟩
  · obtain ⟨k, hk, rfl⟩ := List.getElem_of_mem h
    have hk' : n + 1 + k < l.length := by simp at hk; omega
    exact ⟨n + 1 + k, hk', by omega, by simp [elt, hk']⟩
theorem SrvOk.see {s : Server} (h : SrvOk s) (hp : 0 ≤ pickS s) : SrvOk (seeS s (pickS s).toNat) := by
  obtain ⟨hl, h80, _⟩ := pickS_lt hp
  have hm := elt_mem hl
  have hws := (chain_iff.1 h.waits).2.2
  refine ⟨h.slots, chain_ins h.vers (chain_all h.waits _ hm) (h.apart _ hm) h80, chain_sub h.waits (without_sub _ _), fun v hv => place_none fun x hx => ?_, h.knows⟩
  obtain ⟨k, hk, hne, rfl⟩ := without_elt hv
  rcases insV_mem.1 hx with rfl | hx
  · exact fun e => VS_ne hws hk hl hne e.symm
  · exact place_neg (h.apart _ (elt_mem hk)) x hx
theorem SrvOk.small {s : Server} (h : SrvOk s) (ho : s.owes.length ≤ 1048576) : smallS s := ⟨by have := h.slots; omega, chain_small h.vers, chain_small h.waits, ho, by have := h.knows; omega⟩
theorem pickS_hit {s : Server} {k : Nat} (h80 : s.vers.length < 80) (hk : k < s.waits.length) (h : ∀ i, i < k → goesS s (elt s.waits i) = false) (hp : goesS s (elt s.waits k) = true) : pickS s = k := by
  unfold pickS; rw [if_pos h80]; exact idx_hit hk h hp
theorem pickS_none {s : Server} (h : s.vers.length < 80 → ∀ i, i < s.waits.length → goesS s (elt s.waits i) = false) : pickS s < 0 := by
  unfold pickS
  split
  · rename_i h80
    rw [idx_none (k := s.waits.length) (Nat.le_refl _) (h h80)]; omega
  · omega
theorem seesN_same : ∀ (n : Nat) (s : Server), (seesN n s).site = s.site ∧ (seesN n s).up = s.up ∧ (seesN n s).slots = s.slots ∧ (seesN n s).owes = s.owes ∧ (seesN n s).knows = s.knows
  | 0, s => ⟨rfl, rfl, rfl, rfl, rfl⟩
  | n + 1, s => by
    unfold seesN
    split
    · exact ⟨rfl, rfl, rfl, rfl, rfl⟩
    · obtain ⟨a, b, d, e, f⟩ := seesN_same n (seeS s (pickS s).toNat)
      exact ⟨a, b, d, e, f⟩
theorem SrvOk.sees {s : Server} (h : SrvOk s) : SrvOk (seesS s) := by
  have : ∀ (n : Nat) (s : Server), SrvOk s → SrvOk (seesN n s) := by
    intro n
    induction n with
    | zero => exact fun s h => h
    | succ n ih =>
      intro s h
      unfold seesN
      split
      · exact h
      · exact ih _ (h.see (by omega))
  exact this _ _ h
theorem SrvOk.settle {s : Server} (h : SrvOk s) : SrvOk (settleS s) := by
  have h2 := h.sees
  exact ⟨h2.slots, h2.vers, h2.waits, h2.apart, Nat.le_trans (List.length_filter_le _ _) h2.knows⟩
theorem goes_test (s : Server) (v : Ver) : (((elt s.slots (verSlot v.key).toNat).stand != 1) || !readyS s v) = !goesS s v := by
  unfold goesS standOf
  simp only [bne]
  cases ((elt s.slots (verSlot v.key).toNat).stand == 1) <;> simp
theorem settle_next {s u u2 : Server} {g2 : Bool} {i : Nat} (hu : SrvOk u) (hse : seesS u = seesS s) (hkn : u.knows = s.knows) (hf : g2 = false → u = u2 ∧ i ≤ u.waits.length ∧ (u.vers.length < 80 → ∀ j, j < i → goesS u (elt u.waits j) = false))
    (ht : g2 = true → 0 ≤ pickS u ∧ u2 = seeS u (pickS u).toNat) (hb : u2.waits.length ≤ i ∨ g2 = true) : SrvOk u2 ∧ seesS u2 = seesS s ∧ (g2 = false → pickS u2 < 0) ∧ u2.knows = s.knows := by
  cases g2 with
  | true =>
    obtain ⟨h1, rfl⟩ := ht rfl
    exact ⟨hu.see h1, by rw [← sees_go h1, hse], (fun e => by cases e), hkn⟩
  | false =>
    obtain ⟨rfl, h1, h2⟩ := hf rfl
    have h3 : u.waits.length ≤ i := hb.resolve_right (by simp)
    exact ⟨hu, hse, fun _ => pickS_none fun h80 j hj => h2 h80 j (by omega), hkn⟩
theorem settle_mu {u u2 : Server} {g2 : Bool} {i : Nat} (hf : g2 = false → u = u2 ∧ i ≤ u.waits.length ∧ (u.vers.length < 80 → ∀ j, j < i → goesS u (elt u.waits j) = false))
    (ht : g2 = true → 0 ≤ pickS u ∧ u2 = seeS u (pickS u).toNat) : 2 * u2.waits.length + g2.toNat < 2 * u.waits.length + true.toNat := by
  cases g2 with
  | true =>
    obtain ⟨h1, rfl⟩ := ht rfl
    have := (pickS_lt h1).1
    rw [seeS_len this]; simp; omega
  | false =>
    obtain ⟨rfl, h1, h2⟩ := hf rfl
    simp
theorem canPut_not {s : Server} (h : SrvOk s) {i : Nat} (hi : i < s.waits.length) (hn : canPut s.vers (elt s.waits i) = false) : 80 ≤ s.vers.length := by
  have h1 := chain_all h.waits _ (elt_mem hi)
  have h2 := h.apart _ (elt_mem hi)
  unfold canPut at hn
  rw [h1] at hn
  simp only [Bool.true_and, Bool.and_eq_false_iff, decide_eq_false_iff_not] at hn
  rcases hn with hn | hn
  · exact absurd h2 hn
  · omega
set_option maxHeartbeats 4000000 in
theorem c_spec_l21Settle (s : Server) (h : SrvOk s) :
    Fn Tryz.prog 162 [s.av] ((settleS s).av) := by
 refine Fn.intro 91 Tryz.func162 rfl Tryz.ntmps162 rfl (by kernel_rfl) (fun W I a hs => ?_)
 refine sr <| hs.box rfl .tt fun b1 I a w hs => hs.alloc rfl ty89 zc89 fun b2 I a w hs => nn <| sr <| hs.sc fun hs => nn <| wp_seq <| wp_block ?_
 refine St.lo (σ := Bool × Server) (run 5 3 (run 55 10 [])) ⟨fun ⟨g, u⟩ => [(3, AV.bool g)], fun ⟨g, u⟩ => [Own.box b1 89 u.cells, Own.box b2 89 [AV.val (.int .i64 0), AV.val (.bool false), AV.rows 2 [], AV.rows 7 [], AV.rows 7 [], AV.rows 3 [], AV.rows 3 []]], fun ⟨g, u⟩ => SrvOk u ∧ seesS u = seesS s ∧ (g = false → pickS u < 0) ∧ u.knows = s.knows⟩ (fun ⟨g, u⟩ => 2 * u.waits.length + g.toNat) (true, s) hs ?ok1 ?round1
 case ok1 => exact ⟨h, rfl, (fun e => by cases e), rfl⟩
 case round1 =>
  rintro ⟨g, u⟩ I a w hok hs
  obtain ⟨hu, hse, hstop, hkn⟩ := hok
  have hwl := chain_len hu.waits
  have hkl := hu.knows
  change St _ _ [Own.box b1 89 u.cells, Own.box b2 89 [AV.val (.int .i64 0), AV.val (.bool false), AV.rows 2 [], AV.rows 7 [], AV.rows 7 [], AV.rows 3 [], AV.rows 3 []]] _ _ _ at hs
  refine wp_seq <| sr <| hs.m fun hs => nn ?_
  refine hs.cd (fun hb1 => ?_) fun hb1 => ?_
  ·skip
   refine wp_skip <| then_n <| wp_block <| sr <| hs.sc fun hs => nn <| sr <| hs.sc fun hs => nn <| wp_block ?_
   refine St.lo (σ := Nat × Bool × Server) (run 5 3 (run 54 11 [])) ⟨fun ⟨i, g2, u2⟩ => [(4, AV.int i), (3, AV.bool g2)], fun ⟨i, g2, u2⟩ => [Own.box b1 89 u2.cells, Own.box b2 89 [AV.val (.int .i64 0), AV.val (.bool false), AV.rows 2 [], AV.rows 7 [], AV.rows 7 [], AV.rows 3 [], AV.rows 3 []]], fun ⟨i, g2, u2⟩ => (g2 = false → u = u2 ∧ i ≤ u.waits.length ∧ (u.vers.length < 80 → ∀ j, j < i → goesS u (elt u.waits j) = false)) ∧ (g2 = true → 0 ≤ pickS u ∧ u2 = seeS u (pickS u).toNat)⟩ (fun ⟨i, g2, u2⟩ => if g2 then 0 else u.waits.length - i + 1) (0, false, u) hs ?ok2 ?round2
   case ok2 => exact ⟨fun _ => ⟨rfl, Nat.zero_le _, fun _ j hj => by omega⟩, fun e => by cases e⟩
   case round2 =>
    rintro ⟨i, g2, u2⟩ I a w hok hs
    obtain ⟨hf, ht⟩ := hok
    change St _ _ [Own.box b1 89 u2.cells, Own.box b2 89 [AV.val (.int .i64 0), AV.val (.bool false), AV.rows 2 [], AV.rows 7 [], AV.rows 7 [], AV.rows 3 [], AV.rows 3 []]] _ _ _ at hs
    refine wp_seq <| sr <| hs.m fun hs => hs.o .fv fun hs => ?_
    refine hs.o (.lb 0) fun hs => ?_
    refine hs.o .ln fun hs => ?_
    refine hs.o .lss fun hs => hs.m fun hs => hs.q .T .mv fun hs => ?_
    refine hs.q .T (.ntx .ag) fun hs => ?_
    refine hs.o .an fun hs => nn ?_
    refine hs.cd (fun hb2 => ?_) fun hb2 => ?_
    ·simp only [B] at hb2; obtain ⟨hi, hg2⟩ := hb2; obtain ⟨rfl, hil, hno⟩ := hf hg2; subst hg2
     refine wp_skip <| then_n <| wp_seq <| wp_block <| sr <| hs.o .fv fun hs => hs.o (.lb 0) fun hs => hs.m fun hs => ?_
     refine hs.o ((by first | exact ok_idxN un86 ty173 .tt .tt (fun _ => by exact hi) | exact ok_idxM un86 ty173 .tt .tt (fun _ => by exact hi) | exact ok_idx un86 ty173 .tt .tt (fun _ => by exact hi))) fun hs => ?_
     refine hs.o .la fun hs => ?_
     refine hs.alloc rfl ty173 zc173 fun b5 I a w hs => ?_
     refine hs.sb 2 fun hs => ?_
     obtain ⟨I, hs, hf⟩ := hs.freezeBox 2 rfl
     have hs := hs.upd (t := 5) rfl hf; clear hf
     refine nn <| wp_seq <| wp_seq <| hs.dk <| .o .fv <| .o (.lb 0) <| .o .fp <| .o .l1 <| .o (.c1 (c_spec_VerSlot _)) ?_
     refine .o ((by first | exact ok_idxN un85 ty100 .tt .tt (fun _ => by have := verSlot_range (verOk_key (chain_at hu.waits hi)); have := hu.slots; omega) | exact ok_idxM un85 ty100 .tt .tt (fun _ => by have := verSlot_range (verOk_key (chain_at hu.waits hi)); have := hu.slots; omega) | exact ok_idx un85 ty100 .tt .tt (fun _ => by have := verSlot_range (verOk_key (chain_at hu.waits hi)); have := hu.slots; omega))) ?_
     refine .o .fp <| .o .l1 <| .o .neic <| .o .mv <| .q .F (.ls 0) ?_
     refine .q .F .la ?_
     refine .q .F (.cl (c_spec_l21Ready u (elt u.waits i) hu.vers)) ?_
     refine .q .F (.ntx .ag) ?_
     refine .o .or <| .nil ?_
     intro I a w hs
     refine then_n ?_
     refine hs.cd (fun hb3 => ?_) fun hb3 => ?_
     ·rw [goes_test] at hb3; replace hb3 := nt hb3
      refine wp_exit <| then_x <| block_hit <| then_n <| St.region <| hs.m fun hs => ?_
      refine hs.o .ad fun hs => ?_
      refine hs.s fun hs => nn ?_
      have hs := hs.drop 2
      exact hs.ag (i + 1, false, u) (⟨fun _ => ⟨rfl, hi, fun h80 j hj => by rcases Nat.lt_succ_iff_lt_or_eq.1 hj with h | h; exact hno h80 j h; rw [h]; exact hb3⟩, fun e => by cases e⟩) (hμ := by simp; try omega)
     ·rw [goes_test] at hb3; replace hb3 := nf hb3
      refine wp_skip <| then_n <| sr <| hs.o .fv fun hs => hs.o (.lb 0) fun hs => ?_
      refine hs.o .la fun hs => ?_
      refine hs.o (.cl (c_spec_ChainPut u.vers (elt u.waits i) hu.vers)) fun hs => ?_
      refine hs.m fun hs => ?_
      refine hs.o .e fun hs => hs.o .e fun hs => hs.s fun hs => hs.s fun hs => nn <| sr <| hs.m fun hs => nn ?_
      refine hs.cd (fun hb4 => ?_) fun hb4 => ?_
      ·skip
       refine sr <| hs.m fun hs => hs.o .fv fun hs => ?_
       refine hs.s1 0 fun hs => ?_
       refine nn <| wp_seq ?_
       have hs := hs.ownGone
       refine hs.drawD [([], none), ([], none), ([0], none), ([], none), ([], none), ([3], some (3, [57])), ([], none), ([0], none), ([], none), ([], none), ([], none), ([3], some (3, [])), ([], none), ([0], some (0, []))] (by kernel_rfl) (by kernel_rfl) rfl ?_
       refine .o (ok_lit0 un86 ty173) <| .o .fv ?_
       refine .r [0] (.lb 0) ?_
       refine .o .mv ?_
       refine .o (ok_slH un86 ty173 .r .tt (fun _ => by simp; omega)) ?_
       refine RunD.appendOB 3 rfl rfl un86 ty173 rfl .tt .r (by have := chain_len hu.waits; simp; omega) ?_
       refine .o .fv ?_
       refine .r [0] (.lb 0) ?_
       refine .o .mv ?_
       refine .o .ad ?_
       refine .o (ok_slL un86 ty173 .r .tt (fun _ => by simp; omega)) ?_
       refine RunD.appendN 3 rfl rfl un86 ty173 rfl .r (by have := chain_len hu.waits; simp; omega) ?_
       refine .o .fv ?_
       refine RunD.eff (x := AV.any) 0 (fun F W0 I0 I a w Q hs kk => hs.s1 0 fun hs => kk _ _ _ hs) ?_
       refine .nil ?_
       intro I a w hs
       rw [← List.map_take, ← List.map_drop, ← List.map_append, if_pos hb4, show ((i : Int) + 1).toNat = i + 1 by omega, Int.toNat_natCast] at hs
       change St _ _ [Own.box b1 89 (seeS u i).cells, Own.box b2 89 [AV.val (.int .i64 0), AV.val (.bool false), AV.rows 2 [], AV.rows 7 [], AV.rows 7 [], AV.rows 3 [], AV.rows 3 []], Own.gone, Own.gone] _ _ _ at hs
       refine then_n <| St.region <| hs.sc fun hs => wpList_nil <| block_n <| then_n <| St.region <| hs.m fun hs => ?_
       refine hs.o .ad fun hs => ?_
       refine hs.s fun hs => nn ?_
       have hs := hs.drop 2
       exact hs.ag (i + 1, true, seeS u i) (⟨(fun e => by cases e), fun _ => by have e := pickS_hit (canPut_parts hb4).2.2 hi (hno (canPut_parts hb4).2.2) hb3; rw [e]; exact ⟨by omega, by simp⟩⟩) (hμ := by simp; try omega)
      ·skip
       refine wp_skip <| block_n <| then_n <| St.region <| hs.m fun hs => ?_
       refine hs.o .ad fun hs => ?_
       refine hs.s fun hs => nn ?_
       have hs := hs.drop 2
       exact hs.ag (i + 1, false, u) (⟨fun _ => ⟨rfl, hi, fun h80 => by have := canPut_not hu hi hb4; omega⟩, fun e => by cases e⟩) (hμ := by simp; try omega)
    ·simp only [B] at hb2; rw [Nat.not_lt] at hb2
     refine wp_exit <| then_x <| then_x <| block_hit <| block_n <| then_n ?_
     exact hs.ag (g2, u2) (settle_next hu hse hkn hf ht hb2) (hμ := by subst hb1; exact settle_mu hf ht)
  ·skip
   refine wp_exit <| then_x <| then_x <| block_hit <| then_n <| sr ?_
   refine hs.lit0 rfl un87 ty165 (by decide) fun b65 I a w hs => ?_
   refine hs.s fun hs => nn <| wp_seq <| sr <| hs.sc fun hs => nn <| wp_block ?_
   refine St.lo (σ := Nat × Value) (run 2 8 (run 22 66 [])) ⟨fun ⟨k, v⟩ => [(9, AV.int k), (8, AV.val v)], fun ⟨k, v⟩ => [Own.box b1 89 u.cells, Own.box b2 89 [AV.val (.int .i64 0), AV.val (.bool false), AV.rows 2 [], AV.rows 7 [], AV.rows 7 [], AV.rows 3 [], AV.rows 3 []], Own.row v 165 3 (((u.knows.take k).filter (wantedS u)).map Dep.cells)], fun ⟨k, v⟩ => k ≤ u.knows.length⟩ (fun ⟨k, v⟩ => u.knows.length - k) (0, .slice (some ⟨b65, 0, none⟩) 0 0) hs ?ok3 ?round3
   case ok3 => exact Nat.zero_le _
   case round3 =>
    rintro ⟨k, v⟩ I a w hok hs
    have hk : k ≤ u.knows.length := hok
    change St _ _ [Own.box b1 89 u.cells, Own.box b2 89 [AV.val (.int .i64 0), AV.val (.bool false), AV.rows 2 [], AV.rows 7 [], AV.rows 7 [], AV.rows 3 [], AV.rows 3 []], Own.row v 165 3 (((u.knows.take k).filter (wantedS u)).map Dep.cells)] _ _ _ at hs
    refine wp_seq <| sr <| hs.m fun hs => hs.o .fv fun hs => ?_
    refine hs.o (.lb 0) fun hs => ?_
    refine hs.o .ln fun hs => ?_
    refine hs.o .lss fun hs => nn ?_
    refine hs.cd (fun hb5 => ?_) fun hb5 => ?_
    ·try simp only [B] at hb5
     refine wp_skip <| then_n <| wp_seq <| wp_block <| wp_seq <| hs.dk <| .o (.ls 0) <| .o .fv <| .o (.lb 0) <| .o .mv ?_
     refine .o .ix ?_
     refine .o .la ?_
     refine .o (.c2 (c_spec_l21Wanted ..)) <| .nil ?_
     intro I a w hs
     refine then_n ?_
     refine hs.cd (fun hb6 => ?_) fun hb6 => ?_
     ·try simp only [B] at hb6
      refine St.region <| hs.m fun hs => hs.o .fv fun hs => ?_
      refine hs.o (.lb 0) fun hs => hs.m fun hs => ?_
      refine hs.o .ix fun hs => ?_
      refine hs.o .la fun hs => ?_
      refine hs.o (.li [(elt u.knows k).cells] zo165 (.u .nil)) fun hs => ?_
      refine hs.append 2 rfl un87 ty165 rfl .tt .r rfl (by have h1 := filt_len (wantedS u) u.knows k; have h2 := hu.knows; simp; omega) fun v87 a w hs => ?_
      rw [snocD, ← filt_yes hb5 hb6] at hs
      refine hs.s fun hs => wpList_nil <| block_n <| then_n <| St.region <| hs.m fun hs => ?_
      refine hs.o .ad fun hs => ?_
      refine hs.s fun hs => nn ?_
      exact hs.ag (k + 1, v87) (hb5)
     ·try simp only [B] at hb6
      refine wp_skip <| block_n <| then_n <| St.region <| hs.m fun hs => ?_
      refine hs.o .ad fun hs => ?_
      refine hs.s fun hs => nn ?_
      rw [show (u.knows.take k).filter (wantedS u) = (u.knows.take (k + 1)).filter (wantedS u) from (filt_no hb5 hb6).symm] at hs
      exact hs.ag (k + 1, v) (hb5)
    ·try simp only [B] at hb5
     refine wp_exit <| then_x <| then_x <| block_hit <| then_n <| sr <| hs.m fun hs => ?_
     obtain ⟨I, hs, hf⟩ := hs.freezeRow 2 rfl
     have hs := hs.upd (t := 88) rfl hf; clear hf
     refine hs.o .fv fun hs => ?_
     refine hs.s1 0 fun hs => ?_
     refine nn <| sr <| hs.o (.ls 0) fun hs => ?_
     refine hs.sb 1 fun hs => ?_
     refine nn <| wp_ret ?_
     have e1 : settleS s = keepS u := by unfold settleS; rw [← hse, sees_stop (hstop hb1)]
     have e2 : u.knows.take k = u.knows := List.take_of_length_le (by omega)
     refine hs.ret rfl (.cons (.s 1 ty89 rfl rfl (by first | rfl | assumption)) ResL.nil) ?_
     exact (by rw [e1, e2]; rfl)
end Go.Proofs.YtkoebplikhlapaaGreatDoor
