/- Part 34: rules of the proofs, contracts of functions, plain facts. -/
import Derived.Test.YtkoebplikhlapaaGreatDoorP33
set_option linter.unusedVariables false
set_option linter.unusedSimpArgs false
set_option maxRecDepth 100000
namespace Go.Proofs.YtkoebplikhlapaaGreatDoor
open Go Go.RowKit
def byteI (bs : List UInt8) (i : Int) : Int := ((elt bs i.toNat).toNat : Int)
def mixI (bs : List UInt8) (k : Int) : Int := byteI bs (k % bs.length) * 131 + byteI bs ((k * 7 + 3) % bs.length) * 1117 + k * 29 + k / bs.length * 53
def pickI (bs : List UInt8) (p n : Int) : Int :=
  if n < 1 ∨ bs.length = 0 then 0 else if p < bs.length then byteI bs p % n else xorN (mixI bs p) (mixI bs p / 64) % n
theorem byteI_lo (bs : List UInt8) (i : Int) : 0 ≤ byteI bs i := Int.natCast_nonneg _
theorem byteI_hi (bs : List UInt8) (i : Int) : byteI bs i < 256 := by have := (elt bs i.toNat).toNat_lt; unfold byteI; omega
theorem pickI_lo (bs : List UInt8) (p n : Int) : 0 ≤ pickI bs p n := by
  unfold pickI
  split
  · omega
  · rename_i h
    split
    · exact Int.emod_nonneg _ (by omega)
    · exact Int.emod_nonneg _ (by omega)
theorem pickI_hi (bs : List UInt8) (p : Int) {n : Int} (h : 0 < n) : pickI bs p n < n := by
  unfold pickI
  split
  · omega
  · split
    · exact Int.emod_lt_of_pos _ h
    · exact Int.emod_lt_of_pos _ h
theorem pickI_in (bs : List UInt8) (p : Int) {n : Int} (h : 0 < n) : 0 ≤ pickI bs p n ∧ pickI bs p n < n := ⟨pickI_lo .., pickI_hi bs p h⟩
theorem pickI_fit (bs : List UInt8) (p n : Int) (h : n ≤ 4611686018427387904) : 0 ≤ pickI bs p n ∧ pickI bs p n < 4611686018427387904 := by
  refine ⟨pickI_lo .., ?_⟩
  by_cases h0 : 0 < n
  · have := pickI_hi bs p h0; omega
  · unfold pickI; rw [if_pos (by omega)]; omega
theorem div_le {k m : Int} (hk : 0 ≤ k) (hm : 0 < m) : 0 ≤ k / m ∧ k / m ≤ k := ⟨Int.ediv_nonneg hk (by omega), Int.ediv_le_self _ hk⟩
theorem mixI_in {bs : List UInt8} {k : Int} (h0 : 0 ≤ k) (h1 : k ≤ 1099511627776) (hb : bs.length ≠ 0) : 0 ≤ mixI bs k ∧ mixI bs k < 4611686018427387904 := by
  have h2 := byteI_lo bs (k % bs.length); have h3 := byteI_hi bs (k % bs.length)
  have h4 := byteI_lo bs ((k * 7 + 3) % bs.length); have h5 := byteI_hi bs ((k * 7 + 3) % bs.length)
  have h6 := div_le (k := k) (m := bs.length) h0 (by omega)
  unfold mixI; omega
inductive Reach : Neck → Prop
  | start : Reach startN
  | step {w : Neck} {e : Ev} : Reach w → (doN w e).2 = true → Reach (doN w e).1
theorem Reach.good {w : Neck} (h : Reach w) : NeckGood w := by
  induction h with
  | start => exact (neckOk_iff.1 startN_ok).1
  | step _ hok ih => exact doN_good ih _ hok
def near (x : Int) : Prop := -4611686018427387904 ≤ x ∧ x ≤ 4611686018427387904
def Ev.Near (e : Ev) : Prop := ∀ x ∈ e.ints, near x
theorem Ev.Near.fit {e : Ev} (h : e.Near) : e.Fit := fun x hx => by
  have := h x hx
  unfold near at this; unfold i64r; omega
structure Sim where
  w : Neck
  list : List Ev
  lv : Value
structure SimIn (n : Nat) (s : Sim) : Prop where
  reach : Reach s.w
  time : s.w.time ≤ n
  len : s.list.length ≤ n
  fit : ∀ e ∈ s.list, e.Near
theorem SimIn.mono {n m : Nat} {s : Sim} (h : SimIn n s) (hm : n ≤ m) : SimIn m s :=
  ⟨h.reach, by have := h.time; omega, by have := h.len; omega, h.fit⟩
theorem SimIn.start (n : Nat) (v : Value) : SimIn n ⟨startN, [], v⟩ := ⟨.start, Int.natCast_nonneg n, Nat.zero_le _, fun _ h => by simp at h⟩
theorem SimIn.happen {n : Nat} {s : Sim} {e : Ev} (h : SimIn n s) (he : e.Near) (hok : (doN s.w e).2 = true) (v : Value) : SimIn (n + 1) ⟨(doN s.w e).1, s.list ++ [e], v⟩ :=
  ⟨h.reach.step hok, by have := h.time; show (doN s.w e).1.time ≤ _; rw [doN_time]; omega, by have := h.len; show (s.list ++ [e]).length ≤ _; simp; omega, fun x hx => by
    rcases List.mem_append.1 hx with hx | hx
    · exact h.fit x hx
    · obtain rfl := List.mem_singleton.1 hx; exact he⟩
theorem SimIn.radio {n : Nat} {s : Sim} (h : SimIn n s) : s.w.radio.length ≤ 60 := h.reach.good.radio
theorem SimIn.calls {n : Nat} {s : Sim} (h : SimIn n s) : s.w.calls.length ≤ 20 := (callsOk_iff.1 h.reach.good.calls).1
theorem fit_mk {a b c d e f g h i j k : Int} (h1 : near a := by unfold near; omega) (h2 : near b := by unfold near; omega) (h3 : near c := by unfold near; omega) (h4 : near d := by unfold near; omega) (h5 : near e := by unfold near; omega) (h6 : near f := by unfold near; omega)
    (h7 : near g := by unfold near; omega) (h8 : near h := by unfold near; omega) (h9 : near i := by unfold near; omega) (h10 : near j := by unfold near; omega) (h11 : near k := by unfold near; omega) : Ev.Near ⟨a, b, c, d, e, f, g, h, i, j, k⟩ := by
  intro x hx
  unfold near at *
  simp only [Ev.ints, List.mem_cons, List.not_mem_nil, or_false] at hx
  rcases hx with rfl | rfl | rfl | rfl | rfl | rfl | rfl | rfl | rfl | rfl | rfl <;> omega
theorem elt3_near {x i : Int} (h : near x) : near (elt [0, 2, x] i.toNat) := by
  unfold near at *
  have : ∀ k : Nat, elt [0, 2, x] k = 0 ∨ elt [0, 2, x] k = 2 ∨ elt [0, 2, x] k = x := fun k => by
    match k with
    | 0 => exact .inl rfl
    | 1 => exact .inr (.inl rfl)
    | 2 => exact .inr (.inr rfl)
    | k + 3 => exact .inl rfl
  rcases this i.toNat with h | h | h <;> omega
theorem Ev.Near.all {e : Ev} (h : e.Near) : near e.kind ∧ near e.at_ ∧ near e.client ∧ near e.word ∧ near e.keep ∧ near e.slot ∧ near e.call ∧ near e.a ∧ near e.b ∧ near e.c ∧ near e.val := by
  refine ⟨?_, ?_, ?_, ?_, ?_, ?_, ?_, ?_, ?_, ?_, ?_⟩ <;> exact h _ (by simp [Ev.ints])
theorem fit64 {e : Ev} {a b c d k f g h i j l : Int} (he : e = ⟨a, b, c, d, k, f, g, h, i, j, l⟩) (hh : i64r a ∧ i64r b ∧ i64r c ∧ i64r d ∧ i64r k ∧ i64r f ∧ i64r g ∧ i64r h ∧ i64r i ∧ i64r j ∧ i64r l) : e.Fit := by
  subst he
  obtain ⟨h1, h2, h3, h4, h5, h6, h7, h8, h9, h10, h11⟩ := hh
  intro x hx
  simp only [Ev.ints, List.mem_cons, List.not_mem_nil, or_false] at hx
  rcases hx with rfl | rfl | rfl | rfl | rfl | rfl | rfl | rfl | rfl | rfl | rfl <;> assumption
theorem fit_set {l : List Ev} {i : Nat} {e : Ev} (h : ∀ x ∈ l, x.Near) (he : e.Fit) : ∀ x ∈ l.set i e, x.Fit := fun x hx => by
  rcases List.mem_or_eq_of_mem_set hx with hx | rfl
  · exact (h x hx).fit
  · exact he
def rmK (w : Neck) (e : Ev) : List Word := if e.kind = 5 ∨ e.keep = 0 then w.radio.take e.word.toNat ++ w.radio.drop (e.word.toNat + 1) else w.radio
theorem rmK_good {w : Neck} (h : NeckGood w) (e : Ev) : NeckGood { w with radio := rmK w e } := by
  unfold rmK
  split
  · have hs := without_sub w.radio e.word.toNat
    exact ⟨h.time, h.servers, h.site, Nat.le_trans hs.length_le h.radio, fun m hm => h.words m (hs.subset hm), h.seen, h.saw, h.calls⟩
  · exact h
theorem rmK_eq (w : Neck) (e : Ev) : (if e.kind = 5 ∨ e.keep = 0 then { w with radio := w.radio.take e.word.toNat ++ w.radio.drop (e.word.toNat + 1) } else w) = { w with radio := rmK w e } := by unfold rmK; split <;> rfl
theorem radioN_eq {w : Neck} {e : Ev} (h : inB e.word 0 ((w.radio.length : Int) - 1) = true) : radioN w e = if e.kind = 5 then ({ w with radio := rmK w e }, true) else if inB (elt w.radio e.word.toNat).to 10 11 = true then (answerN { w with radio := rmK w e } (elt w.radio e.word.toNat), true)
    else ({ w with servers := w.servers.set (elt w.radio e.word.toNat).to.toNat (serverHear (elt w.servers (elt w.radio e.word.toNat).to.toNat) (elt w.radio e.word.toNat)).1, radio := sendW (rmK w e) (serverHear (elt w.servers (elt w.radio e.word.toNat).to.toNat) (elt w.radio e.word.toNat)).2 }, true) := by
  unfold radioN
  rw [if_pos h, rmK_eq]
theorem radioN_0 {w : Neck} {e : Ev} (h : inB e.word 0 ((w.radio.length : Int) - 1) = false) : radioN w e = (w, false) := by unfold radioN; rw [h]; rfl
theorem word_to {m : Word} (h : wordOk m = true) (h2 : inB m.to 10 11 = false) : 0 ≤ m.to ∧ m.to ≤ 3 := by
  have := (wordOk_parts h).2.2.1
  simp only [addressB, siteB, Bool.or_eq_true] at this
  rw [h2] at this
  simpa [inB] using this
set_option maxHeartbeats 4000000 in
theorem c_spec_l42Radio (x : Neck) (e : Ev) (hg : NeckGood x) (ht : x.time ≤ 1000000) :
    Fn Tryz.prog 76 [x.av, e.av] (AV.tup [(radioN x e).1.av, AV.bool (radioN x e).2]) := by
 refine Fn.intro 87 Tryz.func76 rfl Tryz.ntmps76 rfl (by kernel_rfl) (fun W I a hs => ?_)
 have hrl := hg.radio
 have hsl := hg.servers
 have hg1 := rmK_good hg e
 refine sr <| hs.box rfl .tt fun b2 I a w hs => hs.o .bp fun hs => hs.alloc rfl ty41 zc41 fun b4 I a w hs => hs.sc fun hs => nn <| wp_seq <| sr <| hs.o .fp fun hs => hs.o .l1 fun hs => hs.o .fv fun hs => hs.o (.lb 0) fun hs => ?_
 refine hs.o .ln fun hs => ?_
 refine hs.o .su fun hs => ?_
 refine hs.o (.cl (c_spec_l6In ..)) fun hs => ?_
 refine hs.o .nt fun hs => nn ?_
 refine hs.cd (fun hb1 => ?_) fun hb1 => ?_
 ·rw [Bool.not_eq_true'] at hb1
  refine sr <| hs.o (.ls 0) fun hs => ?_
  refine hs.sb 1 fun hs => ?_
  refine hs.sc fun hs => nn <| wp_ret <| then_r ?_
  refine hs.ret rfl (.cons (.s 1 ty41 rfl rfl (by first | rfl | assumption)) (.cons (.t rfl) ResL.nil)) ?_
  exact (by rw [radioN_0 hb1]; rfl)
 ·rw [Bool.not_eq_false'] at hb1; have hbw := hb1; simp only [inB, Bool.and_eq_true, decide_eq_true_eq] at hbw; have hm := hg.words _ (elt_mem (l := x.radio) (k := e.word.toNat) (by omega))
  refine wp_skip <| then_n <| sr <| hs.o .fv fun hs => hs.o (.lb 0) fun hs => hs.o .fp fun hs => hs.o .l1 fun hs => ?_
  refine hs.o .ix fun hs => ?_
  refine hs.o .la fun hs => ?_
  refine hs.alloc rfl ty135 zc135 fun b6 I a w hs => ?_
  refine hs.sb 2 fun hs => ?_
  obtain ⟨I, hs, hf⟩ := hs.freezeBox 2 rfl
  have hs := hs.upd (t := 6) rfl hf; clear hf
  refine nn ?_
  refine St.cut (σ := List Word) (run 23 24 []) ⟨fun rd => [], fun rd => [Own.box b2 41 [AV.int x.time, serversAV x.servers, wordsAV rd, callsAV x.calls, seenAV x.seen], Own.box b4 41 [AV.val (.int .i64 0), AV.rows 7 [], AV.rows 15 [], AV.rows 13 [], AV.rows 1 []], Own.gone], fun rd => rd = rmK x e⟩ hs ?cutA4 ?cutB4
  case cutA4 =>
   refine sr <| hs.o .fp fun hs => hs.o .l1 fun hs => hs.o .eqic fun hs => hs.m fun hs => hs.q .F .fp fun hs => ?_
   refine hs.q .F (.lx .ag) fun hs => ?_
   refine hs.q .F (ok_eqi .ag .c) fun hs => ?_
   refine hs.o .or fun hs => nn ?_
   refine hs.cd (fun hb2 => ?_) fun hb2 => ?_
   ·skip
    have hs := hs.ownGone
    refine hs.drawD [([], none), ([], none), ([0], none), ([], none), ([], none), ([], none), ([3], some (3, [38])), ([], none), ([0], none), ([], none), ([], none), ([], none), ([], none), ([3], some (3, [])), ([], none), ([0], some (0, []))] (by kernel_rfl) (by kernel_rfl) rfl ?_
    refine .o (ok_lit0 un37 ty135) <| .o .fv ?_
    refine .r [0] (.lb 0) ?_
    refine .o .fp <| .o .l1 ?_
    refine .o (ok_slH un37 ty135 .r .tt (fun _ => by simp only [List.length_map]; omega)) ?_
    refine RunD.appendOB 3 rfl rfl un37 ty135 rfl .tt .r (by simp; omega) ?_
    refine .o .fv ?_
    refine .r [0] (.lb 0) ?_
    refine .o .fp <| .o .l1 ?_
    refine .o .ad ?_
    refine .o (ok_slL un37 ty135 .r .tt (fun _ => by simp only [List.length_map]; omega)) ?_
    refine RunD.appendN 3 rfl rfl un37 ty135 rfl .r (by simp; omega) ?_
    refine .o .fv ?_
    refine RunD.eff (x := AV.any) 0 (fun F W0 I0 I a w Q hs kk => hs.s1 0 fun hs => kk _ _ _ hs) ?_
    refine .nil ?_
    intro I a w hs
    rw [← List.map_take, ← List.map_drop, ← List.map_append, show (e.word + 1).toNat = e.word.toNat + 1 by omega] at hs
    refine then_n ?_
    have hs := hs.drop 3
    exact hs.me (x.radio.take e.word.toNat ++ x.radio.drop (e.word.toNat + 1)) (by first | exact (if_pos (by simpa using hb2)).symm | exact (if_neg (by simpa using hb2)).symm)
   ·skip
    refine wp_skip <| then_n ?_
    have hs := hs.drop 3
    exact hs.me x.radio (by first | exact (if_pos (by simpa using hb2)).symm | exact (if_neg (by simpa using hb2)).symm)
  case cutB4 =>
   rintro rd I a w hok hs
   obtain rfl : rd = rmK x e := hok
   refine wp_seq <| sr <| hs.o .fp fun hs => hs.o .l1 fun hs => hs.o .eqic fun hs => nn ?_
   refine hs.cd (fun hb3 => ?_) fun hb3 => ?_
   ·try simp only [B] at hb3
    refine sr <| hs.o (.ls 0) fun hs => ?_
    refine hs.sb 1 fun hs => ?_
    refine hs.sc fun hs => nn <| wp_ret <| then_r ?_
    refine hs.ret rfl (.cons (.s 1 ty41 rfl rfl (by first | rfl | assumption)) (.cons (.t rfl) ResL.nil)) ?_
    exact (by rw [radioN_eq hb1, if_pos hb3]; rfl)
   ·try simp only [B] at hb3
    refine wp_skip <| then_n <| wp_seq <| sr <| hs.o .fp fun hs => hs.o .l1 fun hs => hs.o (.c1 (c_spec_l11Client ..)) fun hs => nn ?_
    refine hs.cd (fun hb4 => ?_) fun hb4 => ?_
    ·skip
     refine sr <| hs.o (.ls 0) fun hs => ?_
     refine hs.o .la fun hs => ?_
     refine hs.o (.c2 (c_spec_l42Answer { x with radio := rmK x e } (elt x.radio e.word.toNat) hg1 ht hb4)) fun hs => ?_
     refine hs.sb 1 fun hs => ?_
     refine hs.sc fun hs => nn <| wp_ret <| then_r ?_
     refine hs.ret rfl (.cons (.s 1 ty41 rfl rfl (by first | rfl | assumption)) (.cons (.t rfl) ResL.nil)) ?_
     exact (by rw [radioN_eq hb1, if_neg hb3, if_pos hb4]; rfl)
    ·have hto := word_to hm hb4; have hsv := (hg.site (elt x.radio e.word.toNat).to.toNat (by omega)).2
     refine wp_skip <| then_n <| wp_seq ?_
     have hs := hs.ownGone
     refine hs.drawD [([], none), ([0], none), ([], none), ([], none), ([], none), ([], none), ([], none), ([], none), ([], none), ([], none), ([], none), ([3], some (3, [7])), ([3], some (3, [7])), ([], none)] (by kernel_rfl) (by kernel_rfl) rfl ?_
     refine .o .fv ?_
     refine .r [0] (.lb 0) ?_
     refine .o .fp <| .o .l1 ?_
     refine .o .ix ?_
     refine .o .la ?_
     refine .o .la ?_
     refine .o (.c2 (c_spec_ServerHear (elt x.servers (elt x.radio e.word.toNat).to.toNat) (elt x.radio e.word.toNat) hsv)) <| .o .mv <| .o .e <| .o .e <| RunD.alloc 3 rfl rfl ty89 zc89 <| RunD.storeN 3 rfl ty89 rfl .tt rfl rfl <| .o .as <| .nil ?_
     intro I a w hs
     obtain ⟨b7, hs⟩ := hs.openAt (d := 7) 3 rfl rfl
     obtain ⟨I, hs, hf⟩ := hs.freezeBox 3 rfl
     have hs := hs.upd (t := 7) rfl hf; clear hf
     refine then_n <| sr ?_
     refine hs.lit0 rfl un36 ty89 (by decide) fun b68 I a w hs => ?_
     refine hs.o .fv fun hs => hs.o (.lb 0) fun hs => ?_
     refine hs.append 4 rfl un36 ty89 rfl .tt .r rfl (by simp; omega) fun v71 a w hs => ?_
     simp only [List.nil_append] at hs
     refine hs.o .fv fun hs => ?_
     try have ho71 := hs.oneRow 4 rfl
     refine hs.s1 0 fun hs => ?_
     refine nn <| wp_seq ?_
     obtain ⟨bk1, ck1, ek1⟩ := hs.rowBlock 4 rfl (by simp only [List.length_map]; omega)
     subst ek1
     refine St.region <| hs.o .fv fun hs => hs.o (.lb 0) fun hs => hs.o .fp fun hs => hs.o .l1 fun hs => ?_
     refine hs.o .la fun hs => ?_
     refine hs.o (ok_idxO un36 ty89 .tt .tt (fun _ => by simp only [List.length_map]; omega)) fun hs => ?_
     refine hs.storeRS 4 ty89 .tt .tt rfl (by exact map_get (by omega)) rfl rfl fun a w hs => ?_
     refine nn <| wp_seq ?_
     have e9 : ∀ y, y = Server.cells (serverHear (elt x.servers (elt x.radio e.word.toNat).to.toNat) (elt x.radio e.word.toNat)).1 → (List.map Server.cells x.servers).set (elt x.radio e.word.toNat).to.toNat y = List.map Server.cells (x.servers.set (elt x.radio e.word.toNat).to.toNat (serverHear (elt x.servers (elt x.radio e.word.toNat).to.toNat) (elt x.radio e.word.toNat)).1) := fun y hy => by rw [hy, List.map_set]
     rw [e9] at hs
     rotate_left
     ·rfl
     obtain ⟨I, hs, hf⟩ := hs.freezeRow 4 rfl
     have hs := hs.updBox (q := 1) 0 rfl rfl hf
     refine St.region ?_
     refine hs.lit0 rfl un37 ty135 (by decide) fun b79 I a w hs => ?_
     refine hs.o .fv fun hs => hs.o (.lb 0) fun hs => ?_
     refine hs.append 5 rfl un37 ty135 rfl .tt .r rfl (by have h9 : (rmK x e).length ≤ 60 := hg1.radio; simp; omega) fun v82 a w hs => ?_
     simp only [List.nil_append] at hs
     refine hs.m fun hs => ?_
     refine hs.callM [5] (c_spec_l42Send v82 (rmK x e) (serverHear (elt x.servers (elt x.radio e.word.toNat).to.toNat) (elt x.radio e.word.toNat)).2 hg1.radio) (args_cons .r (args_cons .r args_nil)) rfl (by decide) rfl fun I a w hs => ?_
     refine hs.o .fv fun hs => ?_
     refine hs.s1 0 fun hs => ?_
     refine nn <| sr <| hs.o (.ls 0) fun hs => ?_
     refine hs.sb 1 fun hs => ?_
     refine hs.sc fun hs => nn <| wp_ret ?_
     refine hs.ret rfl (.cons (.s 1 ty41 rfl rfl (by first | rfl | assumption)) (.cons (.t rfl) ResL.nil)) ?_
     exact (by rw [radioN_eq hb1, if_neg hb3, if_neg (by rw [hb4]; simp)]; rfl)
theorem doN_1 {w : Neck} {e : Ev} (h : ((e.kind == 1) || (e.kind == 2) || (e.kind == 3)) = true) : doN w e = ((clientN { w with time := w.time + 1 } e).1, (clientN { w with time := w.time + 1 } e).2) := by unfold doN; rw [if_pos (by simp at h; omega)]
theorem doN_4 {w : Neck} {e : Ev} (h : ((e.kind == 1) || (e.kind == 2) || (e.kind == 3)) = false) (h2 : ((e.kind == 4) || (e.kind == 5)) = true) : doN w e = ((radioN { w with time := w.time + 1 } e).1, (radioN { w with time := w.time + 1 } e).2) := by unfold doN; rw [if_neg (by simp at h; omega), if_pos (by simpa using h2)]
theorem doN_0 {w : Neck} {e : Ev} (h : ((e.kind == 1) || (e.kind == 2) || (e.kind == 3)) = false) (h2 : ((e.kind == 4) || (e.kind == 5)) = false) (h3 : (!inB e.kind 6 9 || !siteB e.at_) = true) : doN w e = ({ w with time := w.time + 1 }, false) := by
  unfold doN; rw [if_neg (by simp at h; omega), if_neg (by simpa using h2), if_neg (by simp at h3; simp; intro h9; rcases h3 with h' | h'; (rw [h'] at h9; cases h9); exact h')]
theorem doN_6 {w : Neck} {e : Ev} (h : ((e.kind == 1) || (e.kind == 2) || (e.kind == 3)) = false) (h2 : ((e.kind == 4) || (e.kind == 5)) = false) (h3 : (!inB e.kind 6 9 || !siteB e.at_) = false) : doN w e = ((serverN { w with time := w.time + 1 } e).1, (serverN { w with time := w.time + 1 } e).2) := by
  unfold doN; rw [if_neg (by simp at h; omega), if_neg (by simpa using h2), if_pos (by simp at h3 ⊢; exact h3)]
theorem site_of {e : Ev} (h3 : (!inB e.kind 6 9 || !siteB e.at_) = false) : siteB e.at_ = true := by simp at h3; exact h3.2
set_option maxHeartbeats 4000000 in
theorem c_spec_l42Do (x : Neck) (e : Ev) (hg : NeckGood x) (ht : x.time ≤ 999999) :
    Fn Tryz.prog 63 [x.av, e.av] (AV.tup [(doN x e).1.av, AV.bool (doN x e).2]) := by
 refine Fn.intro 60 Tryz.func63 rfl Tryz.ntmps63 rfl (by kernel_rfl) (fun W I a hs => ?_)
 have ht0 := hg.time
 have hg1 := hg.later
 have ht1 : Neck.time { x with time := x.time + 1 } ≤ 1000000 := by show x.time + 1 ≤ 1000000; omega
 refine sr <| hs.box rfl .tt fun b2 I a w hs => hs.o .bp fun hs => hs.alloc rfl ty41 zc41 fun b4 I a w hs => hs.sc fun hs => nn <| sr <| hs.o .fv fun hs => hs.o (.lb 0) fun hs => ?_
 refine hs.o .ad fun hs => ?_
 refine hs.o .fv fun hs => ?_
 refine hs.s1 0 fun hs => ?_
 refine nn <| wp_seq <| wp_block <| sr <| hs.o .fp fun hs => hs.o .l1 fun hs => hs.o .eqic fun hs => hs.m fun hs => hs.q .F .fp fun hs => ?_
 refine hs.q .F (.lx .ag) fun hs => ?_
 refine hs.q .F (ok_eqi .ag .c) fun hs => ?_
 refine hs.o .or fun hs => hs.m fun hs => hs.q .F .fp fun hs => ?_
 refine hs.q .F (.lx .ag) fun hs => ?_
 refine hs.q .F (ok_eqi .ag .c) fun hs => ?_
 refine hs.o .or fun hs => hs.s fun hs => nn ?_
 refine hs.cd (fun hb1 => ?_) fun hb1 => ?_
 ·skip
  refine sr <| hs.o (.ls 0) fun hs => ?_
  refine hs.o .la fun hs => ?_
  refine hs.o (.c2 (c_spec_l42Client { x with time := x.time + 1 } e hg1 ht1)) fun hs => hs.o .e fun hs => hs.o .e fun hs => ?_
  refine hs.sb 1 fun hs => ?_
  refine hs.s fun hs => nn <| wp_ret <| block_r <| then_r ?_
  refine hs.ret rfl (.cons (.s 1 ty41 rfl rfl (by first | rfl | assumption)) (.cons (.t rfl) ResL.nil)) ?_
  exact (by rw [doN_1 hb1]; rfl)
 ·skip
  refine sr <| hs.o .fp fun hs => hs.o .l1 fun hs => hs.o .eqic fun hs => hs.m fun hs => hs.q .F .fp fun hs => ?_
  refine hs.q .F (.lx .ag) fun hs => ?_
  refine hs.q .F (ok_eqi .ag .c) fun hs => ?_
  refine hs.o .or fun hs => hs.s fun hs => nn ?_
  refine hs.cd (fun hb2 => ?_) fun hb2 => ?_
  ·skip
   refine sr <| hs.o (.ls 0) fun hs => ?_
   refine hs.o .la fun hs => ?_
   refine hs.o (.c2 (c_spec_l42Radio { x with time := x.time + 1 } e hg1 ht1)) fun hs => hs.o .e fun hs => hs.o .e fun hs => ?_
   refine hs.sb 1 fun hs => ?_
   refine hs.s fun hs => nn <| wp_ret <| block_r <| then_r ?_
   refine hs.ret rfl (.cons (.s 1 ty41 rfl rfl (by first | rfl | assumption)) (.cons (.t rfl) ResL.nil)) ?_
   exact (by rw [doN_4 hb1 hb2]; rfl)
  ·skip
   refine sr <| hs.o .fp fun hs => hs.o .l1 fun hs => ?_
   refine hs.o (.cl (c_spec_l6In ..)) fun hs => ?_
   refine hs.o .nt fun hs => hs.m fun hs => hs.q .F .fp fun hs => ?_
   refine hs.q .F (.lx .ag) fun hs => ?_
   refine hs.q .F (.cl (c_spec_l1Site ..)) fun hs => ?_
   refine hs.q .F (.ntx .ag) fun hs => ?_
   refine hs.o .or fun hs => hs.s fun hs => nn ?_
   refine hs.cd (fun hb3 => ?_) fun hb3 => ?_
   ·skip
    refine sr <| hs.o (.ls 0) fun hs => ?_
    refine hs.sb 1 fun hs => ?_
    refine hs.sc fun hs => nn <| wp_ret <| block_r <| then_r ?_
    refine hs.ret rfl (.cons (.s 1 ty41 rfl rfl (by first | rfl | assumption)) (.cons (.t rfl) ResL.nil)) ?_
    exact (by rw [doN_0 hb1 hb2 hb3]; rfl)
   ·skip
    refine wp_skip <| block_n <| then_n <| sr <| hs.o (.ls 0) fun hs => ?_
    refine hs.o .la fun hs => ?_
    refine hs.o (.c2 (c_spec_l42Server { x with time := x.time + 1 } e hg1 ht1 (site_of hb3))) fun hs => hs.o .e fun hs => hs.o .e fun hs => ?_
    refine hs.sb 1 fun hs => ?_
    refine hs.s fun hs => nn <| wp_ret ?_
    refine hs.ret rfl (.cons (.s 1 ty41 rfl rfl (by first | rfl | assumption)) (.cons (.t rfl) ResL.nil)) ?_
    exact (by rw [doN_6 hb1 hb2 hb3]; rfl)
def startSv : Nat → List Server
  | 0 => []
  | k + 1 => startSv k ++ [startS k]
def startSn : Nat → List (List Dep)
  | 0 => []
  | k + 1 => startSn k ++ [[]]
theorem startSv_len : ∀ k, (startSv k).length = k
  | 0 => rfl
  | k + 1 => by show (startSv k ++ [startS k]).length = _; rw [List.length_append, startSv_len k]; rfl
theorem startSn_len : ∀ k, (startSn k).length = k
  | 0 => rfl
  | k + 1 => by show (startSn k ++ [[]]).length = _; rw [List.length_append, startSn_len k]; rfl
set_option maxHeartbeats 4000000 in
theorem c_spec_NeckStart  :
    Fn Tryz.prog 27 [] (startN.av) := by
 refine Fn.intro 27 Tryz.func27 rfl Tryz.ntmps27 rfl (by kernel_rfl) (fun W I a hs => ?_)
 refine sr <| hs.alloc rfl ty41 zc41 fun b0 I a w hs => nn <| sr ?_
 refine hs.o (.bd zx41 Parts.nil) fun hs => ?_
 refine hs.alloc rfl ty41 zx41 fun b1 I a w hs => ?_
 refine hs.sb 1 fun hs => ?_
 refine wpList_nil ?_
 have hs := hs.ownNil (sz := 7) 89
 have hs := hs.ownNil (sz := 1) 87
 refine then_n <| wp_seq <| sr <| hs.sc fun hs => nn <| wp_block ?_
 refine St.lo (σ := Nat × Value) (2 :: (run 11 5 [])) ⟨fun ⟨k, p⟩ => [(2, AV.int k)], fun ⟨k, p⟩ => [Own.box b0 41 [AV.val (.int .i64 0), AV.rows 7 [], AV.rows 15 [], AV.rows 13 [], AV.rows 1 []], Own.box b1 41 [AV.int 0, AV.val p, AV.val (.slice none 0 0), AV.val (.slice none 0 0), AV.val (.slice none 0 0)], Own.row p 89 7 ((startSv k).map Server.cells), Own.row (.slice none 0 0) 87 1 []], fun ⟨k, p⟩ => k ≤ 4⟩ (fun ⟨k, p⟩ => 4 - k) (0, .slice none 0 0) hs ?ok1 ?round1
 case ok1 => exact Nat.zero_le _
 case round1 =>
  rintro ⟨k, p⟩ I a w hok hs
  have hk : k ≤ 4 := hok
  change St _ _ [Own.box b0 41 [AV.val (.int .i64 0), AV.rows 7 [], AV.rows 15 [], AV.rows 13 [], AV.rows 1 []], Own.box b1 41 [AV.int 0, AV.val p, AV.val (.slice none 0 0), AV.val (.slice none 0 0), AV.val (.slice none 0 0)], Own.row p 89 7 ((startSv k).map Server.cells), Own.row (.slice none 0 0) 87 1 []] _ _ _ at hs
  refine wp_seq <| sr <| hs.m fun hs => hs.o .lssc fun hs => nn ?_
  refine hs.cd (fun hb1 => ?_) fun hb1 => ?_
  ·try simp only [B] at hb1
   refine wp_skip <| then_n <| wp_seq <| wp_block ?_
   refine hs.drawT 5 (by kernel_rfl) (by kernel_rfl) (by kernel_rfl) ?_
   simp only [List.take_succ_cons, List.take_zero, List.drop_succ_cons, List.drop_zero]
   refine .o .fv <| .o (.lb 1) <| .o .mv ?_
   refine .o (ok_call (c_spec_ServerStart k (by omega)) (args_cons (.t rfl) args_nil)) ?_
   refine .o (.li [(startS k).cells] zo89 (.u .nil)) ?_
   refine .nil ?_
   intro I a w hs
   refine hs.append 2 rfl un36 ty89 rfl .tt .r rfl (by rw [List.length_map, startSv_len]; simp; omega) fun v14 a w hs => ?_
   refine hs.o .fv fun hs => ?_
   try have ho14 := hs.oneRow 2 rfl
   refine hs.s1 1 fun hs => ?_
   refine wpList_nil ?_
   rw [snocD] at hs
   refine block_n <| then_n <| St.region <| hs.m fun hs => ?_
   refine hs.o .ad fun hs => ?_
   refine hs.s fun hs => nn ?_
   exact hs.ag (k + 1, v14) (by show k + 1 ≤ 4; omega)
  ·try simp only [B] at hb1
   refine wp_exit <| then_x <| then_x <| block_hit <| then_n <| wp_seq <| sr <| hs.sc fun hs => nn <| wp_block ?_
   refine St.lo (σ := Nat × Value) (3 :: (run 10 16 [])) ⟨fun ⟨j, r⟩ => [(3, AV.int j)], fun ⟨j, r⟩ => [Own.box b0 41 [AV.val (.int .i64 0), AV.rows 7 [], AV.rows 15 [], AV.rows 13 [], AV.rows 1 []], Own.box b1 41 [AV.int 0, AV.val p, AV.val (.slice none 0 0), AV.val (.slice none 0 0), AV.val r], Own.row p 89 7 ((startSv k).map Server.cells), Own.row r 87 1 ((startSn j).map depsCell)], fun ⟨j, r⟩ => j ≤ 2⟩ (fun ⟨j, r⟩ => 2 - j) (0, .slice none 0 0) hs ?ok2 ?round2
   case ok2 => exact Nat.zero_le _
   case round2 =>
    rintro ⟨j, r⟩ I a w hok hs
    have hj : j ≤ 2 := hok
    change St _ _ [Own.box b0 41 [AV.val (.int .i64 0), AV.rows 7 [], AV.rows 15 [], AV.rows 13 [], AV.rows 1 []], Own.box b1 41 [AV.int 0, AV.val p, AV.val (.slice none 0 0), AV.val (.slice none 0 0), AV.val r], Own.row p 89 7 ((startSv k).map Server.cells), Own.row r 87 1 ((startSn j).map depsCell)] _ _ _ at hs
    refine wp_seq <| sr <| hs.m fun hs => hs.o .lssc fun hs => nn ?_
    refine hs.cd (fun hb2 => ?_) fun hb2 => ?_
    ·try simp only [B] at hb2
     refine wp_skip <| then_n <| wp_seq <| wp_block <| St.region <| hs.o .fv fun hs => hs.o (.lb 1) fun hs => ?_
     refine hs.lit0 rfl un87 ty165 (by decide) fun b22 I a w hs => ?_
     obtain ⟨I, hs, hf⟩ := hs.freezeRow 4 rfl
     have hs := hs.upd (t := 22) rfl hf; clear hf
     refine hs.o (.li [depsCell []] zo87 (.v .nil)) fun hs => ?_
     refine hs.append 3 rfl un39 ty87 rfl .tt .r rfl (by rw [List.length_map, startSn_len]; simp; omega) fun v24 a w hs => ?_
     rw [snocD] at hs
     refine hs.o .fv fun hs => ?_
     try have ho24 := hs.oneRow 3 rfl
     refine hs.s1 1 fun hs => ?_
     refine wpList_nil <| block_n <| then_n <| St.region <| hs.m fun hs => ?_
     refine hs.o .ad fun hs => ?_
     refine hs.s fun hs => nn ?_
     have hs := hs.drop 4
     exact hs.ag (j + 1, v24) (by show j + 1 ≤ 2; omega)
    ·try simp only [B] at hb2
     refine wp_exit <| then_x <| then_x <| block_hit <| then_n <| wp_seq ?_
     have hk4 : k = 4 := by omega
     have hj2 : j = 2 := by omega
     subst hk4
     subst hj2
     obtain ⟨I, hs, hf⟩ := hs.freezeRow 2 rfl
     have hs := hs.updBox (q := 1) 1 rfl rfl hf
     obtain ⟨I, hs, hf⟩ := hs.freezeRow 3 rfl
     have hs := hs.updBox (q := 4) 1 rfl rfl hf
     have hs := hs.updBox (q := 2) 1 rfl rfl (rows_nil 15 _)
     have hs := hs.updBox (q := 3) 1 rfl rfl (rows_nil 13 _)
     refine St.region <| hs.o (.ls 1) fun hs => ?_
     refine hs.sb 0 fun hs => ?_
     refine nn <| wp_ret ?_
     refine hs.ret rfl (.cons (.s 0 ty41 rfl rfl (by first | rfl | assumption)) ResL.nil) ?_
     rfl
def byteCell (x : UInt8) : List AV := [AV.byte x]
def bytesAV (l : List UInt8) : AV := .rows 1 (l.map byteCell)
theorem pick_first {bs : List UInt8} {p n : Int} (h : (decide (n < 1) || ((bs.length : Int) == 0)) = true) : 0 = pickI bs p n := by
  simp only [Bool.or_eq_true, decide_eq_true_eq, beq_iff_eq] at h
  unfold pickI; rw [if_pos (by omega)]
theorem pick_more {bs : List UInt8} {n : Int} (h : (decide (n < 1) || ((bs.length : Int) == 0)) = false) : ¬ (n < 1 ∨ bs.length = 0) := by
  simp only [Bool.or_eq_false_iff, decide_eq_false_iff_not, beq_eq_false_iff_ne, ne_eq] at h; omega
theorem near_of {x : Int} (h1 : 0 ≤ x) (h2 : x < 4611686018427387904) : near x := by unfold near; omega
set_option maxHeartbeats 4000000 in
theorem c_spec_l6Rd_pick (br : Nat) (code : List UInt8) (p n : Int) (hp : 0 ≤ p ∧ p ≤ 1099511627775) (hb : code.length ≤ 1099511627776) :
    FnM Tryz.prog 14 [AV.val (.pointer (some ⟨br, 0, none⟩)), AV.int n] [Own.box br 66 [bytesAV code, AV.int (p)]] [Own.box br 66 [bytesAV code, AV.int (p + 1)]] (AV.int (pickI code p n)) := by
 refine FnE.intro 99 Tryz.func14 rfl Tryz.ntmps14 rfl (by kernel_rfl) (fun W I a hs => ?_)
 refine sr <| hs.sc fun hs => nn <| sr <| hs.m fun hs => hs.m fun hs => ?_
 refine hs.o .nl fun hs => ?_
 refine hs.o .fv fun hs => hs.o (.lb 0) fun hs => ?_
 refine hs.o .ad fun hs => ?_
 refine hs.o .nl fun hs => ?_
 refine hs.o .fv fun hs => ?_
 refine hs.s1 0 fun hs => ?_
 refine nn <| wp_seq <| sr <| hs.m fun hs => hs.o .lssc fun hs => hs.m fun hs => hs.q .F .mv fun hs => ?_
 refine hs.q .F .nl fun hs => ?_
 refine hs.q .F (.fvx .ag) fun hs => ?_
 refine hs.q .F (.lbx 0 .ag) fun hs => ?_
 refine hs.q .F .ln fun hs => ?_
 refine hs.q .F (ok_eqi .ag .c) fun hs => ?_
 refine hs.o .or fun hs => nn ?_
 refine hs.cd (fun hb1 => ?_) fun hb1 => ?_
 ·skip
  refine sr <| hs.sc fun hs => nn <| wp_ret <| then_r <| hs.retE () [0] rfl (.cons (.t rfl) .nil) trivial rfl ?_
  exact congrArg AV.int (pick_first hb1)
 ·replace hb1 := pick_more hb1
  refine wp_skip <| then_n <| sr <| hs.m fun hs => ?_
  refine hs.o .nl fun hs => ?_
  refine hs.o .fv fun hs => hs.o (.lb 0) fun hs => ?_
  refine hs.o .su fun hs => ?_
  refine hs.s fun hs => nn <| wp_seq <| sr <| hs.m fun hs => hs.m fun hs => ?_
  refine hs.o .nl fun hs => ?_
  refine hs.o .fv fun hs => hs.o (.lb 0) fun hs => ?_
  refine hs.o .ln fun hs => ?_
  refine hs.o .lss fun hs => nn ?_
  refine hs.cd (fun hb2 => ?_) fun hb2 => ?_
  ·try simp only [B] at hb2
   refine sr <| hs.m fun hs => ?_
   refine hs.o .nl fun hs => ?_
   refine hs.o .fv fun hs => hs.o (.lb 0) fun hs => hs.m fun hs => ?_
   refine hs.o .ix fun hs => ?_
   refine hs.o .l1 fun hs => ?_
   refine hs.o (ok_of8 (by kernel_rfl) un3 .tt (fun _ => by have y1 := (elt code (p + 1 - 1).toNat).toNat_lt; omega)) fun hs => ?_
   refine hs.m fun hs => ?_
   refine hs.o (ok_rem .tt .tt (fun _ => by have y1 := (elt code (p + 1 - 1).toNat).toNat_lt; omega)) fun hs => ?_
   refine hs.s fun hs => nn <| wp_ret <| then_r <| hs.retE () [0] rfl (.cons (.t rfl) .nil) trivial rfl <| congrArg AV.int ?_
   unfold pickI
   rw [if_neg hb1, if_pos (by omega), Int.add_sub_cancel]
   rfl
  ·try simp only [B] at hb2
   refine wp_skip <| then_n <| wp_seq <| hs.dk <| .o .mv ?_
   refine .o .nl ?_
   refine .o .fv <| .o (.lb 0) <| .o .mv <| .o .mv ?_
   refine .o .nl ?_
   refine .o .fv <| .o (.lb 0) ?_
   refine .o .ln ?_
   refine .o (ok_rem .tt .tt (fun _ => by omega)) ?_
   refine .o ((by first | exact ok_idxN un22 ty5 .tt .tt (fun _ => by have h9 := Int.emod_nonneg (p + 1 - 1) (show (code.length : Int) ≠ 0 by omega); have h8 := Int.emod_lt_of_pos (p + 1 - 1) (show (0 : Int) < code.length by omega); omega) | exact ok_idxM un22 ty5 .tt .tt (fun _ => by have h9 := Int.emod_nonneg (p + 1 - 1) (show (code.length : Int) ≠ 0 by omega); have h8 := Int.emod_lt_of_pos (p + 1 - 1) (show (0 : Int) < code.length by omega); omega) | exact ok_idx un22 ty5 .tt .tt (fun _ => by have h9 := Int.emod_nonneg (p + 1 - 1) (show (code.length : Int) ≠ 0 by omega); have h8 := Int.emod_lt_of_pos (p + 1 - 1) (show (0 : Int) < code.length by omega); omega))) ?_
   refine .o .l1 ?_
   refine .o (ok_of8 (by kernel_rfl) un3 .tt (fun _ => by have y1 := (elt code ((p + 1 - 1) % (code.length : Int)).toNat).toNat_lt; omega)) ?_
   refine .o (ok_mul .tt .c (fun _ => by have y1 := byteI_lo code ((p + 1 - 1) % code.length); have y2 := byteI_hi code ((p + 1 - 1) % code.length); have y3 := byteI_lo code (((p + 1 - 1) * 7 + 3) % code.length); have y4 := byteI_hi code (((p + 1 - 1) * 7 + 3) % code.length); have y5 := div_le (k := p + 1 - 1) (m := code.length) (by omega) (by omega); unfold byteI at y1 y2 y3 y4; omega)) ?_
   refine .o .mv ?_
   refine .o .nl ?_
   refine .o .fv <| .o (.lb 0) <| .o .mv ?_
   refine .o (ok_mul .tt .c (fun _ => by omega)) ?_
   refine .o .ad ?_
   refine .o .mv ?_
   refine .o .nl ?_
   refine .o .fv <| .o (.lb 0) ?_
   refine .o .ln ?_
   refine .o (ok_rem .tt .tt (fun _ => by omega)) ?_
   refine .o ((by first | exact ok_idxN un22 ty5 .tt .tt (fun _ => by have h9 := Int.emod_nonneg ((p + 1 - 1) * 7 + 3) (show (code.length : Int) ≠ 0 by omega); have h8 := Int.emod_lt_of_pos ((p + 1 - 1) * 7 + 3) (show (0 : Int) < code.length by omega); omega) | exact ok_idxM un22 ty5 .tt .tt (fun _ => by have h9 := Int.emod_nonneg ((p + 1 - 1) * 7 + 3) (show (code.length : Int) ≠ 0 by omega); have h8 := Int.emod_lt_of_pos ((p + 1 - 1) * 7 + 3) (show (0 : Int) < code.length by omega); omega) | exact ok_idx un22 ty5 .tt .tt (fun _ => by have h9 := Int.emod_nonneg ((p + 1 - 1) * 7 + 3) (show (code.length : Int) ≠ 0 by omega); have h8 := Int.emod_lt_of_pos ((p + 1 - 1) * 7 + 3) (show (0 : Int) < code.length by omega); omega))) ?_
   refine .o .l1 ?_
   refine .o (ok_of8 (by kernel_rfl) un3 .tt (fun _ => by have y1 := (elt code (((p + 1 - 1) * 7 + 3) % (code.length : Int)).toNat).toNat_lt; omega)) ?_
   refine .o (ok_mul .tt .c (fun _ => by have y1 := byteI_lo code ((p + 1 - 1) % code.length); have y2 := byteI_hi code ((p + 1 - 1) % code.length); have y3 := byteI_lo code (((p + 1 - 1) * 7 + 3) % code.length); have y4 := byteI_hi code (((p + 1 - 1) * 7 + 3) % code.length); have y5 := div_le (k := p + 1 - 1) (m := code.length) (by omega) (by omega); unfold byteI at y1 y2 y3 y4; omega)) ?_
   refine .o (ok_add .tt .tt (fun _ => by have y1 := byteI_lo code ((p + 1 - 1) % code.length); have y2 := byteI_hi code ((p + 1 - 1) % code.length); have y3 := byteI_lo code (((p + 1 - 1) * 7 + 3) % code.length); have y4 := byteI_hi code (((p + 1 - 1) * 7 + 3) % code.length); have y5 := div_le (k := p + 1 - 1) (m := code.length) (by omega) (by omega); unfold byteI at y1 y2 y3 y4; omega)) ?_
   refine .o .mv ?_
   refine .o (ok_mul .tt .c (fun _ => by omega)) ?_
   refine .o (ok_add .tt .tt (fun _ => by have y1 := byteI_lo code ((p + 1 - 1) % code.length); have y2 := byteI_hi code ((p + 1 - 1) % code.length); have y3 := byteI_lo code (((p + 1 - 1) * 7 + 3) % code.length); have y4 := byteI_hi code (((p + 1 - 1) * 7 + 3) % code.length); have y5 := div_le (k := p + 1 - 1) (m := code.length) (by omega) (by omega); unfold byteI at y1 y2 y3 y4; omega)) ?_
   refine .o .mv <| .o .mv ?_
   refine .o .nl ?_
   refine .o .fv <| .o (.lb 0) ?_
   refine .o .ln ?_
   refine .o (ok_quo .tt .tt (fun _ => by omega)) ?_
   refine .o (ok_mul .tt .c (fun _ => by have y1 := byteI_lo code ((p + 1 - 1) % code.length); have y2 := byteI_hi code ((p + 1 - 1) % code.length); have y3 := byteI_lo code (((p + 1 - 1) * 7 + 3) % code.length); have y4 := byteI_hi code (((p + 1 - 1) * 7 + 3) % code.length); have y5 := div_le (k := p + 1 - 1) (m := code.length) (by omega) (by omega); unfold byteI at y1 y2 y3 y4; omega)) ?_
   refine .o (ok_add .tt .tt (fun _ => by have y1 := byteI_lo code ((p + 1 - 1) % code.length); have y2 := byteI_hi code ((p + 1 - 1) % code.length); have y3 := byteI_lo code (((p + 1 - 1) * 7 + 3) % code.length); have y4 := byteI_hi code (((p + 1 - 1) * 7 + 3) % code.length); have y5 := div_le (k := p + 1 - 1) (m := code.length) (by omega) (by omega); unfold byteI at y1 y2 y3 y4; omega)) ?_
   refine .o .as <| .nil ?_
   intro I a w hs
   have hmx := mixI_in (bs := code) (k := p) hp.1 (by omega) (by omega)
   rw [Int.add_sub_cancel] at hs
   change St _ _ _ ((6, AV.int (mixI code p)) :: _) _ _ at hs
   generalize hX : mixI code p = X at hs hmx
   refine then_n <| sr <| hs.m fun hs => hs.m fun hs => ?_
   refine hs.o (ok_quo .tt .c (fun _ => by omega)) fun hs => ?_
   refine hs.o (ok_xor .tt .tt (fun _ => by omega)) fun hs => ?_
   refine hs.s fun hs => nn <| sr <| hs.m fun hs => hs.m fun hs => ?_
   refine hs.o (ok_rem .tt .tt (fun _ => by have := xorN_pos (m := X) (n := X / 64); have := xorN_lt (m := X) (n := X / 64) (by omega) (by omega); omega)) fun hs => ?_
   refine hs.s fun hs => nn <| wp_ret <| hs.retE () [0] rfl (.cons (.t rfl) .nil) trivial rfl <| congrArg AV.int ?_
   unfold pickI
   rw [if_neg hb1, if_neg (by omega), hX]
set_option maxHeartbeats 4000000 in
theorem c_spec_l71Sim_do (bs br : Nat) (s : Sim) (e : Ev) (n : Nat) (h : SimIn n s) (hn : n ≤ 900000) (he : e.Near) :
    FnE Tryz.prog 44 [AV.val (.pointer (some ⟨bs, 0, none⟩)), e.av] [Own.box bs 43 [AV.val (.pointer (some ⟨br, 0, none⟩)), AV.int s.w.time, serversAV s.w.servers, wordsAV s.w.radio, callsAV s.w.calls, seenAV s.w.seen, AV.val s.lv], Own.row s.lv 50 11 (s.list.map Ev.cells)] (fun r : Sim × Bool => SimIn (n + 1) r.1) (fun r => [Own.box bs 43 [AV.val (.pointer (some ⟨br, 0, none⟩)), AV.int r.1.w.time, serversAV r.1.w.servers, wordsAV r.1.w.radio, callsAV r.1.w.calls, seenAV r.1.w.seen, AV.val r.1.lv], Own.row r.1.lv 50 11 (r.1.list.map Ev.cells)]) (fun r => AV.bool r.2) := by
 refine FnE.intro 32 Tryz.func44 rfl Tryz.ntmps44 rfl (by kernel_rfl) (fun W I a hs => ?_)
 have hle := h.len
 have htm := h.time
 refine sr <| hs.o .bp fun hs => hs.sc fun hs => nn <| wp_seq ?_
 have hs := hs.ownGone
 refine hs.drawD [([], none), ([], none), ([], none), ([0], none), ([], none), ([], none), ([], none), ([], none), ([], none), ([2], some (2, [5])), ([2], some (2, [5])), ([], none)] (by kernel_rfl) (by kernel_rfl) rfl ?_
 refine .o .mv ?_
 refine .o .nl ?_
 refine .o .fv ?_
 refine .r [0] (.ls 0) ?_
 refine .o .la ?_
 refine .o (ok_call (c_spec_l42Do s.w e h.reach.good (by omega)) (args_cons (.t rfl) (args_cons (.t rfl) args_nil))) ?_
 refine .o .mv <| .o .e <| .o .e <| RunD.alloc 2 rfl rfl ty41 zc41 <| RunD.storeN 2 rfl ty41 rfl .tt rfl rfl <| .o .as <| .nil ?_
 intro I a w hs
 obtain ⟨b5, hs⟩ := hs.openAt (d := 5) 2 rfl rfl
 obtain ⟨I, hs, hf⟩ := hs.freezeBox 2 rfl
 have hs := hs.upd (t := 5) rfl hf; clear hf
 refine then_n <| wp_seq <| sr <| hs.m fun hs => nn ?_
 refine hs.cd (fun hb1 => ?_) fun hb1 => ?_
 ·skip
  refine sr <| hs.m fun hs => ?_
  refine hs.o .la fun hs => ?_
  refine hs.o .nl fun hs => ?_
  refine hs.o .fv fun hs => hs.storeS 0 ty41 .tt .tt rfl rfl rfl fun a w hs => nn ?_
  refine hs.drawD [([], none), ([], none), ([], none), ([], none), ([0], none), ([], none), ([], none), ([1], some (1, [28])), ([], none), ([], none), ([0], some (0, [28]))] (by kernel_rfl) (by kernel_rfl) rfl ?_
  refine .o .mv <| .o .mv ?_
  refine .o .nl ?_
  refine .o .fv ?_
  refine .r [0] (.lb 0) ?_
  refine .o .la ?_
  refine .o (.li [e.cells] zo50 (.u .nil)) ?_
  refine RunD.appendK 1 rfl rfl un24 ty50 rfl .tt .r (by simp; omega) ?_
  refine .o .nl ?_
  refine .o .fv <| RunD.storeK 0 rfl ty24 .tt rfl rfl <| .nil ?_
  intro I a w hs
  change St _ _ [Own.box bs 43 [AV.val (.pointer (some ⟨br, 0, none⟩)), AV.int (doN s.w e).1.time, serversAV (doN s.w e).1.servers, wordsAV (doN s.w e).1.radio, callsAV (doN s.w e).1.calls, seenAV (doN s.w e).1.seen, AV.val (a.tmps.getD 28 undef)], Own.row (a.tmps.getD 28 undef) 50 11 (s.list.map Ev.cells ++ [e.cells]), _] _ _ _ at hs
  generalize a.tmps.getD 28 undef = lv at hs
  rw [show s.list.map Ev.cells ++ [e.cells] = (s.list ++ [e]).map Ev.cells by simp] at hs
  refine then_n <| sr <| hs.m fun hs => hs.s fun hs => nn <| wp_ret ?_
  refine hs.retE ((⟨(doN s.w e).1, s.list ++ [e], lv⟩ : Sim), (doN s.w e).2) [0, 1] rfl (.cons (.t rfl) .nil) (h.happen he hb1 lv) rfl rfl
 ·skip
  refine wp_skip <| then_n <| sr <| hs.m fun hs => hs.s fun hs => nn <| wp_ret ?_
  refine hs.retE (s, (doN s.w e).2) [0, 1] rfl (.cons (.t rfl) .nil) (h.mono (by omega)) rfl rfl
end Go.Proofs.YtkoebplikhlapaaGreatDoor
