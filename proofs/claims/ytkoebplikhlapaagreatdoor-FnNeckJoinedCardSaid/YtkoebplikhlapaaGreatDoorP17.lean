/- Part 17: rules of the proofs, contracts of functions, plain facts. -/
import Derived.Test.YtkoebplikhlapaaGreatDoorP16
set_option linter.unusedVariables false
set_option linter.unusedSimpArgs false
set_option maxRecDepth 100000
namespace Go.Proofs.YtkoebplikhlapaaGreatDoor
open Go Go.RowKit
def putD : List Dep → Dep → List Dep
  | [], d => [d]
  | e :: r, d => if e.key = d.key then (if stampLess e.stamp d.stamp then d else e) :: r else if d.key < e.key then d :: e :: r else e :: putD r d
def joinD (a b : List Dep) : List Dep := b.foldl putD a
def depIsKey (key : Int) (d : Dep) : Bool := d.key == key
def atD (l : List Dep) (key : Int) : Stamp := match l.find? (depIsKey key) with
  | some d => d.stamp
  | none => ⟨0, 0⟩
theorem stampLess_total {a b : Stamp} (h : stampLess a b = false) (h' : stampLess b a = false) : a = b := by
  obtain ⟨t, s⟩ := a
  obtain ⟨t', s'⟩ := b
  simp [stampLess] at h h'
  simp
  omega
theorem stampLess_asymm {a b : Stamp} (h : stampLess a b = true) : stampLess b a = false := by
  obtain ⟨t, s⟩ := a
  obtain ⟨t', s'⟩ := b
  simp [stampLess] at h ⊢
  omega
theorem putD_pick (e d : Dep) (h : e.key = d.key) : (if stampLess d.stamp e.stamp then e else d) = (if stampLess e.stamp d.stamp then d else e) := by
  cases h1 : stampLess d.stamp e.stamp
  · cases h2 : stampLess e.stamp d.stamp
    · have := stampLess_total h1 h2
      obtain ⟨k, s⟩ := e
      obtain ⟨k', s'⟩ := d
      simp at this h ⊢; exact ⟨h.symm, this⟩
    · simp
  · rw [stampLess_asymm h1]; simp
theorem depsFrom_put : ∀ {l : List Dep} {last : Int} {d : Dep}, depsFrom last l = true → inB d.key (last + 1) 5 = true → stampOk d.stamp = true → depsFrom last (putD l d) = true
  | [], last, d, _, h, hs => by simp [putD, depsFrom, h, hs]
  | e :: r, last, d, hl, h, hs => by
    simp only [depsFrom, Bool.and_eq_true] at hl
    obtain ⟨⟨h1, h2⟩, h3⟩ := hl
    unfold putD
    split
    · rename_i hk
      split
      · simp only [depsFrom, Bool.and_eq_true]
        exact ⟨⟨h, hs⟩, hk ▸ h3⟩
      · simp only [depsFrom, Bool.and_eq_true]
        exact ⟨⟨h1, h2⟩, h3⟩
    · rename_i hk
      split
      · rename_i hlt
        simp only [depsFrom, Bool.and_eq_true]
        refine ⟨⟨h, hs⟩, ⟨?_, h2⟩, h3⟩
        simp [inB] at h1 ⊢; omega
      · rename_i hlt
        simp only [depsFrom, Bool.and_eq_true]
        refine ⟨⟨h1, h2⟩, depsFrom_put h3 ?_ hs⟩
        simp [inB] at h ⊢; omega
def depOk (d : Dep) : Bool := keyB d.key && stampOk d.stamp
theorem depOk_one (d : Dep) : depsOk [d] = depOk d := by simp [depsOk, depsFrom, depOk, keyB]
theorem depsOk_put {l : List Dep} {d : Dep} (h : depsOk l = true) (hd : depOk d = true) : depsOk (putD l d) = true := by
  simp only [depOk, Bool.and_eq_true] at hd
  exact depsFrom_put h (by simpa [keyB] using hd.1) hd.2
theorem depsFrom_all : ∀ {l : List Dep} {last : Int}, depsFrom last l = true → ∀ d ∈ l, last < d.key ∧ d.key ≤ 5 ∧ stampOk d.stamp = true
  | [], _, _, d, hd => by simp at hd
  | e :: r, last, h, d, hd => by
    simp only [depsFrom, Bool.and_eq_true, inB, decide_eq_true_eq] at h
    rcases List.mem_cons.1 hd with rfl | hd
    · exact ⟨by omega, h.1.1.2, h.1.2⟩
    · have := depsFrom_all h.2 d hd
      exact ⟨by omega, this.2⟩
theorem mem_elt {α : Type} [Inhabited α] {l : List α} {x : α} (h : x ∈ l) : ∃ k, k < l.length ∧ elt l k = x := by
  obtain ⟨k, hk, rfl⟩ := List.getElem_of_mem h
  exact ⟨k, hk, by simp [elt, hk]⟩
theorem depsOk_all {l : List Dep} (h : depsOk l = true) {d : Dep} (hd : d ∈ l) : depOk d = true := by
  have := depsFrom_all h d hd
  simp [depOk, keyB, inB, this.2.2]; omega
theorem depsOk_join {a b : List Dep} (ha : depsOk a = true) (hb : ∀ d ∈ b, depOk d = true) : depsOk (joinD a b) = true := by
  unfold joinD
  induction b generalizing a with
  | nil => exact ha
  | cons d r ih => exact ih (depsOk_put ha (hb d (by simp))) (fun e he => hb e (by simp [he]))
theorem joinD_take {a b : List Dep} {k : Nat} (h : k < b.length) : joinD a (b.take (k + 1)) = putD (joinD a (b.take k)) (elt b k) := by
  unfold joinD; rw [take_elt h, List.foldl_append]; rfl
theorem depsOk_join_take {a b : List Dep} (ha : depsOk a = true) (hb : depsOk b = true) (k : Nat) : depsOk (joinD a (b.take k)) = true :=
  depsOk_join ha fun d hd => depsOk_all hb (List.mem_of_mem_take hd)
theorem depsFrom_sorted : ∀ {l : List Dep} {last : Int}, depsFrom last l = true → ∀ {i j : Nat}, i < j → j < l.length → (elt l i).key < (elt l j).key
  | [], _, _, i, j, _, hj => by simp at hj
  | e :: r, last, h, 0, j + 1, _, hj => by
    simp only [depsFrom, Bool.and_eq_true] at h
    have hj' : j < r.length := by simpa using hj
    exact (depsFrom_all h.2 _ (elt_mem hj')).1
  | e :: r, last, h, i + 1, j + 1, hij, hj => by
    simp only [depsFrom, Bool.and_eq_true] at h
    exact depsFrom_sorted h.2 (i := i) (j := j) (by omega) (by simpa using hj)
theorem depsFrom_len' : ∀ (l : List Dep) (last : Int), depsFrom last l = true → last ≤ 5 → (l.length : Int) ≤ 5 - last
  | [], last, _, h => by simp; omega
  | d :: r, last, h, hl => by
    simp only [depsFrom, Bool.and_eq_true, inB, decide_eq_true_eq] at h
    have := depsFrom_len' r d.key h.2 (by omega)
    simp; omega
theorem depsOk_len6 {l : List Dep} (h : depsOk l = true) : l.length ≤ 6 := by
  have := depsFrom_len' l (-1) h (by omega); omega
theorem depsOk_fit {l : List Dep} (h : depsOk l = true) {i j : Nat} (hij : i < j) (hj : j < l.length) : (elt l i).key < (elt l j).key := depsFrom_sorted h hij hj
structure PutAt (l : List Dep) (d : Dep) (k : Nat) (done : Bool) (out : List Dep) : Prop where
  hk : k ≤ l.length
  eq : putD l d = if done then out ++ l.drop k else out ++ putD (l.drop k) d
  late : done = true → ∀ i, k ≤ i → i < l.length → d.key < (elt l i).key
  len : out.length ≤ k + done.toNat
theorem PutAt.zero (l : List Dep) (d : Dep) : PutAt l d 0 false [] := ⟨Nat.zero_le _, by simp, (fun h => by cases h), by simp⟩
section
variable {l : List Dep} {d : Dep} {k : Nat} {out : List Dep} {done : Bool}
theorem PutAt.same (hp : PutAt l d k done out) (hl : depsOk l = true) (h : k < l.length) (he : (elt l k).key = d.key) : done = false ∧ PutAt l d (k + 1) true (out ++ [if stampLess (elt l k).stamp d.stamp then d else elt l k]) := by
  have hd : done = false := by
    cases done
    · rfl
    · have := hp.late rfl k (Nat.le_refl _) h; omega
  subst hd
  refine ⟨rfl, h, ?_, fun _ i hi hil => ?_, by have := hp.len; simp at this ⊢; omega⟩
  · have := hp.eq
    rw [drop_elt h] at this
    simp only [putD, if_pos he] at this
    rw [this]; simp
  · rw [← he]; exact depsOk_fit hl (by omega) hil
theorem PutAt.before (hp : PutAt l d k false out) (hl : depsOk l = true) (h : k < l.length) (he : d.key < (elt l k).key) : PutAt l d (k + 1) true ((out ++ [d]) ++ [elt l k]) := by
  refine ⟨h, ?_, fun _ i hi hil => ?_, by have := hp.len; simp at this ⊢; omega⟩
  · have := hp.eq
    rw [drop_elt h] at this
    simp only [putD, if_neg (show ¬ (elt l k).key = d.key by omega), if_pos he] at this
    rw [this]; simp
  · have := depsOk_fit hl (i := k) (j := i) (by omega) hil
    omega
theorem PutAt.step (hp : PutAt l d k done out) (h : k < l.length) (he : (elt l k).key ≠ d.key) (hn : done = false → (elt l k).key ≤ d.key) : PutAt l d (k + 1) done (out ++ [elt l k]) := by
  refine ⟨h, ?_, fun hd i hi hil => hp.late hd i (by omega) hil, by have := hp.len; simp; omega⟩
  have := hp.eq
  cases done
  · rw [drop_elt h] at this
    have := hn rfl
    simp_all only [putD]
    simp
    omega
  · simp only [if_true] at this ⊢
    rw [this, drop_elt h]; simp
theorem PutAt.endT (hp : PutAt l d k true out) (h : l.length ≤ k) : out = putD l d := by
  have := hp.eq
  rw [List.drop_eq_nil_of_le h] at this; simpa using this.symm
theorem PutAt.endF (hp : PutAt l d k false out) (h : l.length ≤ k) : out ++ [d] = putD l d := by
  have := hp.eq
  rw [List.drop_eq_nil_of_le h] at this; simpa [putD] using this.symm
end
theorem find_hit {l : List Dep} {key : Int} {k : Nat} (hk : k < l.length) (h : ∀ i, i < k → depIsKey key (elt l i) = false) (hp : depIsKey key (elt l k) = true) : atD l key = (elt l k).stamp := by
  have : l.find? (depIsKey key) = some (elt l k) := by
    rw [List.find?_eq_some_iff_getElem]
    refine ⟨hp, k, hk, by simp [elt, hk], fun j hj => ?_⟩
    have hjl : j < l.length := by omega
    have := h j hj
    simpa [elt, hjl] using this
  unfold atD; rw [this]
theorem find_none {l : List Dep} {key : Int} {k : Nat} (hk : l.length ≤ k) (h : ∀ i, i < k → depIsKey key (elt l i) = false) : atD l key = ⟨0, 0⟩ := by
  have : l.find? (depIsKey key) = none := by
    rw [List.find?_eq_none]
    intro x hx
    obtain ⟨i, hi, rfl⟩ := mem_elt hx
    rw [h i (by omega)]; simp
  unfold atD; rw [this]
def ltI (a b : Int) : Bool := decide (a < b)
def keysUp (l : List Int) : Bool := allN l.length (linkB keyB ltI l)
def keysOk (c : Call) : Bool := keysUp c.keys && ((c.kind == 1 && ((c.keys.length : Int) == 1)) || (c.kind == 2 && inB c.keys.length 1 3))
def ver0 : Ver := ⟨0, ⟨0, 0⟩, 0, 0, 0, []⟩
def verIs (v u : Ver) : Bool := decide (v = u)
def older (a : Answer) (s : Stamp) : Bool := !a.yes || stampLess a.ver.stamp s
def ansIs (key : Int) (a : Answer) : Bool := a.key == key
def gotI (c : Call) (key : Int) : Int := idxI (ansIs key) c.got
def intIs (key : Int) (n : Int) : Bool := n == key
def hasKey (l : List Int) (key : Int) : Bool := hasB (intIs key) l
def ansGood (a : Answer) : Bool := if a.yes then verOk a.ver && (a.ver.key == a.key) else verIs a.ver ver0
def ansLess (a b : Answer) : Bool := decide (a.key < b.key)
def ansAt (c : Call) (i : Nat) : Bool := linkB (fun a => hasKey c.keys a.key) ansLess c.got i && ansGood (elt c.got i)
def needAt (c : Call) (i : Nat) : Bool := decide (0 ≤ gotI c (elt c.needs i).key) && older (elt c.got (gotI c (elt c.needs i).key).toNat) (elt c.needs i).stamp
def answered (c : Call) : Bool := (c.got.length : Int) == c.keys.length
def gotsOk (c : Call) : Bool := allN c.got.length (ansAt c)
def gotOk (c : Call) : Bool := gotsOk c && allN c.needs.length (needAt c) && (((c.needs.length : Int) == 0) || answered c)
def callHead (c : Call) (time : Int) : Bool := clientB c.client && inB c.num 1 99 && keysOk c && inB c.val 0 9999 && depsOk c.ctx && depsOk c.needs && inB c.begin_ 1 time && stampFits c.stamp && gotOk c
def callMid (c : Call) : Bool := !((c.kind == 1 && decide (0 < (c.got.length : Int) + c.needs.length)) || (!(c.kind == 1) && ((c.val != 0) || !stampNone c.stamp)))
def callEnd (c : Call) (time : Int) : Bool := if c.end_ = 0 then stampNone c.stamp else !(c.over || !inB c.end_ (c.begin_ + 1) time || decide (0 < (c.needs.length : Int))) && ((c.kind == 1 && !stampNone c.stamp) || (!(c.kind == 1) && answered c))
def callOk (c : Call) (time : Int) : Bool := callHead c time && callMid c && callEnd c time
theorem keyB_iff {n : Int} : keyB n = true ↔ 0 ≤ n ∧ n ≤ 5 := by simp [keyB, inB]
theorem keys_test2 (l : List Int) (k : Nat) : (!keyB (elt l k) || (decide (0 < (k : Int)) && decide (elt l k ≤ elt l ((k : Int) - 1).toNat))) = !linkB keyB ltI l k := by
  rw [← link_test]
  have e : decide (elt l k ≤ elt l ((k : Int) - 1).toNat) = !ltI (elt l ((k : Int) - 1).toNat) (elt l k) := by rw [Bool.eq_iff_iff]; simp [ltI]
  rw [e]
theorem ans_test (c : Call) (k : Nat) : (!hasKey c.keys (elt c.got k).key || (decide (0 < (k : Int)) && decide ((elt c.got k).key ≤ (elt c.got ((k : Int) - 1).toNat).key))) = !linkB (fun a => hasKey c.keys a.key) ansLess c.got k := by
  rw [← link_test]
  have e : decide ((elt c.got k).key ≤ (elt c.got ((k : Int) - 1).toNat).key) = !ansLess (elt c.got ((k : Int) - 1).toNat) (elt c.got k) := by rw [Bool.eq_iff_iff]; simp [ansLess]
  rw [e]
def ansGood2 (a : Answer) : Bool := if a.yes then verOk a.ver && (a.ver.key == a.key) else keyB a.key && verIs a.ver ver0
def ans2At (c : Call) (i : Nat) : Bool := ansGood2 (elt c.got i) && linkB (fun a => hasKey c.keys a.key) ansLess c.got i
def need2At (c : Call) (i : Nat) : Bool := decide (0 ≤ gotI c (elt c.needs i).key) && stampLess (elt c.got (gotI c (elt c.needs i).key).toNat).ver.stamp (elt c.needs i).stamp
theorem hasB_mem {α : Type} [Inhabited α] {p : α → Bool} {l : List α} (h : hasB p l = true) : ∃ x ∈ l, p x = true := by
  simp only [hasB, decide_eq_true_eq] at h
  obtain ⟨k, hk, hp⟩ := idxI_any h
  exact ⟨_, elt_mem hk, hp⟩
theorem mem_hasB {α : Type} [Inhabited α] {p : α → Bool} {l : List α} {x : α} (h : x ∈ l) (hp : p x = true) : hasB p l = true := by
  simp only [hasB, decide_eq_true_eq]
  rcases Int.lt_or_le (idxI p l) 0 with hn | hn
  · obtain ⟨k, hk, rfl⟩ := mem_elt h
    rw [idxI_all hn k hk] at hp; cases hp
  · exact hn
theorem hasKey_iff {l : List Int} {n : Int} : hasKey l n = true ↔ n ∈ l := by
  constructor
  · intro h
    obtain ⟨x, hx, he⟩ := hasB_mem h
    simp [intIs] at he; exact he ▸ hx
  · exact fun h => mem_hasB h (by simp [intIs])
theorem keysUp_key {l : List Int} (h : keysUp l = true) {n : Int} (hn : n ∈ l) : keyB n = true := by
  obtain ⟨k, hk, rfl⟩ := mem_elt hn
  have := (allN_iff.1 h) k hk
  unfold linkB at this
  rw [Bool.and_eq_true] at this
  exact this.1
theorem ansGood2_eq {c : Call} (h : keysUp c.keys = true) (i : Nat) : ans2At c i = ansAt c i := by
  unfold ans2At ansAt
  cases h1 : linkB (fun a => hasKey c.keys a.key) ansLess c.got i
  · simp
  · have h2 : hasKey c.keys (elt c.got i).key = true := by unfold linkB at h1; rw [Bool.and_eq_true] at h1; exact h1.1
    have := keysUp_key h (hasKey_iff.1 h2)
    unfold ansGood2 ansGood
    cases (elt c.got i).yes <;> simp [this]
theorem gotsOk_at {c : Call} (h : gotsOk c = true) {i : Nat} (hi : i < c.got.length) : ansGood (elt c.got i) = true ∧ hasKey c.keys (elt c.got i).key = true := by
  have := (allN_iff.1 h) i hi
  unfold ansAt linkB at this
  simp only [Bool.and_eq_true] at this
  exact ⟨this.2, this.1.1⟩
theorem gotI_lt {c : Call} {key : Int} (h : 0 ≤ gotI c key) : (gotI c key).toNat < c.got.length := by
  have := idxI_lt (ansIs key) c.got
  unfold gotI at *; omega
theorem stampOk_time {s : Stamp} (h : stampOk s = true) : 1 ≤ s.time := by simp [stampOk, inB] at h; omega
def zst : Stamp := ⟨0, 0⟩
theorem zst_less {s : Stamp} (h : 1 ≤ s.time) : stampLess zst s = true := by
  obtain ⟨t, u⟩ := s
  have h : (1 : Int) ≤ t := h
  have e : decide ((0 : Int) < t) = true := decide_eq_true (by omega)
  show (decide ((0 : Int) < t) || _) = true
  rw [e]; rfl
theorem zst_not {s : Stamp} (h : 1 ≤ s.time) : stampLess s zst = false := by
  obtain ⟨t, u⟩ := s
  have h : (1 : Int) ≤ t := h
  show (decide (t < (0 : Int)) || ((t == (0 : Int)) && decide (u < (0 : Int)))) = false
  have e : decide (t < (0 : Int)) = false := decide_eq_false (by omega)
  have e2 : (t == (0 : Int)) = false := by simp; omega
  rw [e, e2]; rfl
theorem older_eq {a : Answer} {s : Stamp} (h : ansGood a = true) (hs : stampOk s = true) : older a s = stampLess a.ver.stamp s := by
  unfold ansGood at h
  unfold older
  cases hy : a.yes
  · rw [hy] at h
    simp [verIs] at h
    have := stampOk_time hs
    rw [h, show stampLess ver0.stamp s = true from zst_less this]; rfl
  · simp
theorem need2_eq {c : Call} (h : gotsOk c = true) (hd : depsOk c.needs = true) {i : Nat} (hi : i < c.needs.length) : need2At c i = needAt c i := by
  unfold need2At needAt
  by_cases hg : 0 ≤ gotI c (elt c.needs i).key
  · have h2 := depsOk_all hd (elt_mem hi)
    simp only [depOk, Bool.and_eq_true] at h2
    rw [older_eq (gotsOk_at h (gotI_lt hg)).1 h2.2]
  · simp [hg]
theorem rise_le {f : Answer → Int} : ∀ {ks : List Int} {l : List Answer}, ks.Pairwise (· < ·) → (l.map f).Pairwise (· < ·) → (∀ a ∈ l, f a ∈ ks) → l.length ≤ ks.length
  | [], [], _, _, _ => Nat.le_refl _
  | [], a :: l, _, _, h => by have := h a (by simp); simp at this
  | y :: ks, [], _, _, _ => by simp
  | y :: ks, a :: l, hk, hl, h => by
    rw [List.pairwise_cons] at hk
    rw [List.map_cons, List.pairwise_cons] at hl
    by_cases hay : f a = y
    · have : l.length ≤ ks.length := rise_le hk.2 hl.2 fun b hb => by
        have h1 := h b (by simp [hb])
        have h2 := hl.1 (f b) (List.mem_map.2 ⟨b, hb, rfl⟩)
        rcases List.mem_cons.1 h1 with h3 | h3
        · omega
        · exact h3
      simp; omega
    · have hya : y < f a := by
        rcases List.mem_cons.1 (h a (by simp)) with h3 | h3
        · exact absurd h3 hay
        · exact hk.1 _ h3
      have : (a :: l).length ≤ ks.length := rise_le hk.2 (by rw [List.map_cons, List.pairwise_cons]; exact hl) fun b hb => by
        have h1 := h b hb
        rcases List.mem_cons.1 h1 with h3 | h3
        · rcases List.mem_cons.1 hb with rfl | hb
          · exact absurd h3 hay
          · have h2 := hl.1 (f b) (List.mem_map.2 ⟨b, hb, rfl⟩); omega
        · exact h3
      simp at this ⊢; omega
theorem link_pairwise {α : Type} [Inhabited α] {f : α → Int} {l : List α} (h : ∀ i, 0 < i → i < l.length → f (elt l (i - 1)) < f (elt l i)) : (l.map f).Pairwise (· < ·) := by
  rw [List.pairwise_iff_getElem]
  intro i j hi hj hij
  simp only [List.length_map] at hi hj
  simp only [List.getElem_map]
  have e : ∀ k (hk : k < l.length), l[k] = elt l k := fun k hk => by simp [elt, hk]
  rw [e i hi, e j hj]
  obtain ⟨n, rfl⟩ : ∃ n, j = i + 1 + n := ⟨j - (i + 1), by omega⟩
  clear hij
  induction n with
  | zero => have := h (i + 1) (by omega) hj; simpa using this
  | succ n ih =>
    have h1 := ih (by omega)
    have h2 := h (i + 1 + (n + 1)) (by omega) hj
    rw [show i + 1 + (n + 1) - 1 = i + 1 + n from by omega] at h2
    omega
theorem keys_rise {l : List Int} (h : keysUp l = true) : l.Pairwise (· < ·) := by
  have := link_pairwise (f := fun n : Int => n) (l := l) fun i h0 hi => by
    have := (allN_iff.1 h) i hi
    unfold linkB at this
    simp [ltI] at this
    have h1 := this.2
    omega
  simpa using this
theorem gots_le {c : Call} (hk : keysUp c.keys = true) (h : gotsOk c = true) : c.got.length ≤ c.keys.length :=
  rise_le (f := Answer.key) (keys_rise hk) (link_pairwise fun i h0 hi => by
    have := (allN_iff.1 h) i hi
    unfold ansAt linkB at this
    simp [ansLess] at this
    have h1 := this.1.2
    omega) fun a ha => by
    obtain ⟨k, hk', rfl⟩ := mem_elt ha
    exact hasKey_iff.1 (gotsOk_at h hk').2
def keys2 (c : Call) : Bool := !(decide ((c.keys.length : Int) < 1) || decide (3 < (c.keys.length : Int)) || ((c.kind == 1) && ((c.keys.length : Int) != 1))) && keysUp c.keys
theorem keys2_eq (c : Call) : (inB c.kind 1 2 && keys2 c) = keysOk c := by
  unfold keys2 keysOk
  cases keysUp c.keys
  · simp
  · rw [Bool.eq_iff_iff]
    simp [inB]; omega
def specHead (c : Call) (time : Int) : Bool := !(!inB c.client 0 1 || !inB c.num 1 99 || !inB c.kind 1 2 || !keys2 c || !inB c.val 0 9999 || !depsOk c.ctx || !depsOk c.needs || !inB c.begin_ 1 time)
def specMid (c : Call) : Bool := !(((c.kind == 1) && decide (0 < (c.got.length : Int) + c.needs.length)) || ((c.kind == 2) && (decide (0 < c.val) || !stampNone c.stamp)) || !stampFits c.stamp || decide ((c.keys.length : Int) < c.got.length))
def specFull (c : Call) : Bool := !(decide (0 < (c.needs.length : Int)) && decide ((c.got.length : Int) < c.keys.length))
def specEnd (c : Call) (time : Int) : Bool := if c.end_ = 0 then stampNone c.stamp else !c.over && inB c.end_ (c.begin_ + 1) time && ((c.needs.length : Int) == 0) && (((c.kind == 1) && stampOk c.stamp) || ((c.kind == 2) && ((c.got.length : Int) == c.keys.length)))
theorem len_pos (n : Nat) : decide (0 < (n : Int)) = !decide (n = 0) := by
  rw [Bool.eq_iff_iff]; simp; omega
theorem len_add (n m : Nat) : decide (0 < (n : Int) + m) = !(decide (n = 0) && decide (m = 0)) := by
  rw [Bool.eq_iff_iff]; simp; omega
theorem len_eq (n m : Nat) : ((n : Int) == m) = decide (n = m) := by
  rw [Bool.eq_iff_iff]; simp; omega
theorem len_zero (n : Nat) : ((n : Int) == 0) = decide (n = 0) := by
  rw [Bool.eq_iff_iff]; simp
theorem len_lt {n m : Nat} (h : n ≤ m) : decide ((n : Int) < m) = !decide (n = m) := by
  rw [Bool.eq_iff_iff]; simp; omega
theorem callOk_spec (c : Call) (time : Int) : callOk c time = (specHead c time && specMid c && allN c.got.length (ans2At c) && specFull c && allN c.needs.length (need2At c) && specEnd c time) := by
  have e0 : inB c.client 0 1 = clientB c.client := rfl
  cases hk2 : keysOk c
  · have h1 : callOk c time = false := by simp [callOk, callHead, hk2]
    have h2 : specHead c time = false := by
      rw [← keys2_eq] at hk2
      unfold specHead
      cases h3 : inB c.kind 1 2
      · simp
      · rw [h3, Bool.true_and] at hk2; rw [hk2]; simp
    rw [h1, h2]; simp
  · have hku : keysUp c.keys = true := by unfold keysOk at hk2; rw [Bool.and_eq_true] at hk2; exact hk2.1
    have hk3 := hk2
    rw [← keys2_eq, Bool.and_eq_true] at hk3
    have hkind : c.kind = 1 ∨ c.kind = 2 := by have := hk3.1; simp [inB] at this; omega
    have e1 : allN c.got.length (ans2At c) = gotsOk c := allN_congr rfl fun i _ => ansGood2_eq hku i
    rw [e1]
    cases hg : gotsOk c
    · simp [callOk, callHead, gotOk, hg]
    · have hle := gots_le hku hg
      cases hnd : depsOk c.needs
      · simp [callOk, callHead, specHead, hnd]
      · have e2 : allN c.needs.length (need2At c) = allN c.needs.length (needAt c) := allN_congr rfl fun i hi => need2_eq hg hnd hi
        rw [e2]
        unfold callOk callHead gotOk callMid callEnd specHead specMid specFull specEnd
        rw [e0, hk2, hk3.1, hk3.2, hg, hnd]
        generalize clientB c.client = b1
        generalize inB c.num 1 99 = b2
        generalize depsOk c.ctx = b4
        generalize inB c.begin_ 1 time = b5
        generalize allN c.needs.length (needAt c) = b6
        generalize inB c.end_ (c.begin_ + 1) time = b7
        have e3 : (decide (0 < c.val) && inB c.val 0 9999) = ((c.val != 0) && inB c.val 0 9999) := by
          rw [Bool.eq_iff_iff]; simp [inB]; omega
        have e4 : answered c = decide (c.got.length = c.keys.length) := len_eq _ _
        have e5 : ((c.needs.length : Int) == 0) = decide (c.needs.length = 0) := len_zero _
        have e6 : decide (0 < (c.needs.length : Int)) = !decide (c.needs.length = 0) := len_pos _
        have e7 : decide ((c.got.length : Int) < c.keys.length) = !decide (c.got.length = c.keys.length) := len_lt hle
        have e8 : decide ((c.keys.length : Int) < c.got.length) = false := by simp; omega
        have e9 : ((c.got.length : Int) == c.keys.length) = decide (c.got.length = c.keys.length) := len_eq _ _
        have e10 : decide (0 < (c.got.length : Int) + c.needs.length) = !(decide (c.got.length = 0) && decide (c.needs.length = 0)) := len_add _ _
        rw [e4, e5, e6, e7, e8, e9, e10]
        have e11 : stampFits c.stamp = (stampNone c.stamp || stampOk c.stamp) := rfl
        rw [e11]
        cases hv : inB c.val 0 9999
        · simp
        · rw [hv, Bool.and_true, Bool.and_true] at e3
          rw [e3]
          generalize decide (c.got.length = c.keys.length) = b9
          generalize decide (c.got.length = 0) = b10
          generalize decide (c.needs.length = 0) = b11
          generalize (c.val != 0) = b12
          generalize c.over = b14
          by_cases hn : stampNone c.stamp = true
          · have hs : stampOk c.stamp = false := by
              cases hs : stampOk c.stamp
              · rfl
              · have := stampOk_time hs; simp [stampNone] at hn; omega
            rw [hn, hs]
            rcases hkind with hh | hh <;> rw [hh] <;> by_cases he : c.end_ = 0 <;> simp [he] <;> revert b1 b2 b4 b5 b6 b7 b9 b10 b11 b12 b14 <;> decide
          · simp only [Bool.not_eq_true] at hn
            rw [hn]
            generalize stampOk c.stamp = b13
            rcases hkind with hh | hh <;> rw [hh] <;> by_cases he : c.end_ = 0 <;> simp [he] <;> revert b1 b2 b4 b5 b6 b7 b9 b10 b11 b12 b13 b14 <;> decide
def clash (d k : Call) : Bool := (d.client == k.client) && !d.over && ((d.end_ == 0) || decide (k.begin_ ≤ d.end_))
def cntB (l : List Call) (k : Nat) (x : Int) : Int := (((l.take k).filter fun d => d.client == x).length : Nat)
theorem cntB_succ {l : List Call} {k : Nat} (h : k < l.length) (x : Int) : cntB l (k + 1) x = if (elt l k).client = x then cntB l k x + 1 else cntB l k x := by
  unfold cntB
  rw [take_elt h, List.filter_append, List.length_append]
  by_cases hx : (elt l k).client = x <;> simp [hx]
theorem cntB_le (l : List Call) (k : Nat) (x : Int) : 0 ≤ cntB l k x ∧ cntB l k x ≤ k := by
  unfold cntB
  have := List.length_filter_le (fun d : Call => d.client == x) (l.take k)
  have h2 : (l.take k).length ≤ k := by simp; omega
  omega
def callStep (l : List Call) (time : Int) (i : Nat) : Bool := callOk (elt l i) time && (decide (i = 0) || decide ((elt l (i - 1)).begin_ < (elt l i).begin_))
def callAt (l : List Call) (time : Int) (i : Nat) : Bool := (callStep l time i && ((elt l i).num == cntB l (i + 1) (elt l i).client)) && allN i fun j => !clash (elt l j) (elt l i)
def callsOk (l : List Call) (time : Int) : Bool := allN l.length (callAt l time) && decide (l.length ≤ 20)
theorem step_test (l : List Call) (time : Int) (k : Nat) : (!callOk (elt l k) time || (decide (0 < (k : Int)) && decide ((elt l k).begin_ ≤ (elt l ((k : Int) - 1).toNat).begin_))) = !callStep l time k := by
  have e := link_test (fun d => callOk d time) (fun a b => decide (a.begin_ < b.begin_)) l k
  have e2 : decide ((elt l k).begin_ ≤ (elt l ((k : Int) - 1).toNat).begin_) = !decide ((elt l ((k : Int) - 1).toNat).begin_ < (elt l k).begin_) := by rw [Bool.eq_iff_iff]; simp
  rw [e2, e]; rfl
def neckHead (w : Neck) : Bool := !(!inB w.time 0 99999 || ((w.servers.length : Int) != 4) || decide (60 < (w.radio.length : Int)) || ((w.seen.length : Int) != 2))
def siteAt (w : Neck) (i : Nat) : Bool := ((elt w.servers i).site == (i : Int)) && serverOk (elt w.servers i)
def wordBad (m : Word) : Bool := !wordOk m
def depsBad (l : List Dep) : Bool := !depsOk l
def neckOk (w : Neck) : Bool := neckHead w && allN w.servers.length (siteAt w) && !hasB wordBad w.radio && !hasB depsBad w.seen && callsOk w.calls w.time
def Neck.Fit (w : Neck) : Prop := (∀ m ∈ w.radio, i64r m.frm ∧ i64r m.to) ∧ ∀ d ∈ w.calls, i64r d.client
def smax (a b : Stamp) : Stamp := if stampLess a b then b else a
theorem smax_less (a b x : Stamp) : stampLess x (smax a b) = (stampLess x a || stampLess x b) := by
  obtain ⟨t, s⟩ := a
  obtain ⟨t', s'⟩ := b
  obtain ⟨t2, s2⟩ := x
  unfold smax
  rw [Bool.eq_iff_iff]
  by_cases h : stampLess ⟨t, s⟩ ⟨t', s'⟩ = true
  · rw [if_pos h]
    simp [stampLess] at h ⊢; omega
  · rw [if_neg h]
    simp [stampLess] at h ⊢; omega
theorem stamp_ext {a b : Stamp} (h : ∀ x, stampLess x a = stampLess x b) : a = b := by
  have h1 := h a
  have h2 := h b
  have e : ∀ s : Stamp, stampLess s s = false := fun s => by simp [stampLess]
  rw [e] at h1 h2
  exact stampLess_total h1.symm h2
theorem smax_assoc (a b d : Stamp) : smax (smax a b) d = smax a (smax b d) := stamp_ext fun x => by simp only [smax_less, Bool.or_assoc]
theorem smax_comm (a b : Stamp) : smax a b = smax b a := stamp_ext fun x => by simp only [smax_less]; rw [Bool.or_comm]
theorem atD_cons (e : Dep) (r : List Dep) (key : Int) : atD (e :: r) key = if e.key = key then e.stamp else atD r key := by
  unfold atD
  rw [List.find?_cons]
  by_cases h : e.key = key
  · rw [if_pos h, show depIsKey key e = true by simp [depIsKey, h]]
  · rw [if_neg h, show depIsKey key e = false by simp [depIsKey, h]]
theorem atD_lt : ∀ {l : List Dep} {last key : Int}, depsFrom last l = true → key ≤ last → atD l key = ⟨0, 0⟩
  | [], _, _, _, _ => rfl
  | e :: r, last, key, h, hk => by
    have hh := h
    simp only [depsFrom, Bool.and_eq_true, inB, decide_eq_true_eq] at h
    rw [atD_cons, if_neg (by omega)]
    exact atD_lt h.2 (by omega)
theorem smax_zero {s : Stamp} (h : s = zst ∨ stampOk s = true) : smax zst s = s := by
  unfold smax
  rcases h with rfl | h
  · simp
  · rw [if_pos (zst_less (stampOk_time h))]
theorem smax_zero' {s : Stamp} (h : s = zst ∨ stampOk s = true) : smax s zst = s := by rw [smax_comm, smax_zero h]
theorem atD_ok : ∀ {l : List Dep} {last : Int}, depsFrom last l = true → ∀ key, atD l key = zst ∨ stampOk (atD l key) = true
  | [], _, _, key => Or.inl rfl
  | e :: r, last, h, key => by
    simp only [depsFrom, Bool.and_eq_true] at h
    rw [atD_cons]
    split
    · exact Or.inr h.1.2
    · exact atD_ok h.2 key
theorem atD_put : ∀ {l : List Dep} {last : Int} {d : Dep} (key : Int), depsFrom last l = true → stampOk d.stamp = true → atD (putD l d) key = if d.key = key then smax (atD l key) d.stamp else atD l key
  | [], last, d, key, _, hs => by
    unfold putD
    rw [atD_cons]
    split
    · show d.stamp = smax zst d.stamp
      rw [smax_zero (Or.inr hs)]
    · rfl
  | e :: r, last, d, key, h, hs => by
    have h' := h
    simp only [depsFrom, Bool.and_eq_true] at h
    unfold putD
    split
    · rename_i hk
      rw [atD_cons, atD_cons]
      have e1 : (if stampLess e.stamp d.stamp = true then d else e).key = e.key := by split <;> simp [hk]
      rw [e1, hk]
      split
      · unfold smax; split <;> rfl
      · rfl
    · rename_i hk
      split
      · rename_i hlt
        rw [atD_cons]
        split
        · rename_i hkey
          have : atD (e :: r) key = zst := by
            have hd : depsFrom d.key (e :: r) = true := by
              simp only [depsFrom, Bool.and_eq_true]
              refine ⟨⟨?_, h.1.2⟩, h.2⟩
              have := h.1.1
              simp [inB] at this ⊢; omega
            exact atD_lt hd (by omega)
          rw [this, smax_zero (Or.inr hs)]
        · rfl
      · rename_i hlt
        rw [atD_cons, atD_cons, atD_put key h.2 hs]
        by_cases hek : e.key = key
        · rw [if_pos hek, if_pos hek, if_neg (by omega)]
        · rw [if_neg hek, if_neg hek]
theorem atD_join {a b : List Dep} (ha : depsOk a = true) (hb : depsOk b = true) (key : Int) : atD (joinD a b) key = smax (atD a key) (atD b key) := by
  have hb' : ∀ d ∈ b, depOk d = true := fun d hd => depsOk_all hb hd
  have key2 : ∀ {b : List Dep} {last : Int} {a : List Dep}, depsOk a = true → depsFrom last b = true → (∀ d ∈ b, depOk d = true) → atD (joinD a b) key = smax (atD a key) (atD b key) := by
    intro b
    induction b with
    | nil =>
      intro last a ha _ _
      show atD a key = smax (atD a key) zst
      rw [smax_zero' (atD_ok ha key)]
    | cons d r ih =>
      intro last a ha hb hall
      have hd := hall d (by simp)
      have hd' := hd
      simp only [depOk, Bool.and_eq_true] at hd'
      simp only [depsFrom, Bool.and_eq_true] at hb
      show atD (joinD (putD a d) r) key = _
      rw [ih (depsOk_put ha hd) hb.2 fun e he => hall e (by simp [he]), atD_put key ha hd'.2, atD_cons]
      split
      · rename_i hk
        have : atD r key = zst := atD_lt hb.2 (by omega)
        rw [this, smax_zero']
        have h1 := atD_ok ha key
        rcases h1 with h1 | h1
        · rw [h1, smax_zero (Or.inr hd'.2)]; exact Or.inr hd'.2
        · right
          unfold smax; split
          · exact hd'.2
          · exact h1
      · rfl
  exact key2 ha hb hb'
theorem deps_ext : ∀ {a b : List Dep} {last : Int}, depsFrom last a = true → depsFrom last b = true → (∀ key, atD a key = atD b key) → a = b
  | [], [], _, _, _, _ => rfl
  | [], e :: r, _, _, h, he => by
    have := he e.key
    rw [atD_cons, if_pos rfl] at this
    simp only [depsFrom, Bool.and_eq_true] at h
    have h1 := stampOk_time h.1.2
    rw [← this] at h1
    simp [atD] at h1
  | e :: r, [], _, h, _, he => by
    have := he e.key
    rw [atD_cons, if_pos rfl] at this
    simp only [depsFrom, Bool.and_eq_true] at h
    have h1 := stampOk_time h.1.2
    rw [this] at h1
    simp [atD] at h1
  | e :: r, e' :: r', last, h, h', he => by
    have g := h
    have g' := h'
    simp only [depsFrom, Bool.and_eq_true] at h h'
    have hne : ∀ {e e' : Dep} {r r' : List Dep} , stampOk e.stamp = true → depsFrom e'.key r' = true → (∀ key, atD (e :: r) key = atD (e' :: r') key) → ¬ e.key < e'.key := fun {e e' r r'} hs hr he hlt => by
      have := he e.key
      rw [atD_cons, if_pos rfl, atD_cons, if_neg (by omega), atD_lt hr (by omega)] at this
      have h1 := stampOk_time hs
      rw [this] at h1; simp at h1
    have hk : e.key = e'.key := by
      have h1 := hne h.1.2 h'.2 he
      have h2 := hne h'.1.2 h.2 fun key => (he key).symm
      omega
    have hst : e.stamp = e'.stamp := by
      have := he e.key
      rwa [atD_cons, if_pos rfl, atD_cons, if_pos hk.symm] at this
    have hr : r = r' := by
      rw [← hk] at h'
      refine deps_ext h.2 h'.2 fun key => ?_
      have := he key
      rw [atD_cons, atD_cons, ← hk] at this
      by_cases hkk : e.key = key
      · rw [atD_lt h.2 (by omega), atD_lt h'.2 (by omega)]
      · rwa [if_neg hkk, if_neg hkk] at this
    obtain ⟨k1, s1⟩ := e
    obtain ⟨k2, s2⟩ := e'
    simp at hk hst
    rw [hk, hst, hr]
def SOk (s : Stamp) : Prop := s = zst ∨ stampOk s = true
theorem smax_ok {a b : Stamp} (ha : SOk a) (hb : SOk b) : SOk (smax a b) := by unfold smax; split <;> assumption
def joinStep (out : List Dep) (a : Answer) : List Dep := joinD out a.ver.deps
def cameD (c : Call) : List Dep := c.got.foldl joinStep []
def sawStep (out : List Dep) (a : Answer) : List Dep := if a.yes then putD (joinD out a.ver.deps) a.ver.dep else out
def sawStep2 (out : List Dep) (a : Answer) : List Dep := if a.yes then putD out ⟨a.key, a.ver.stamp⟩ else out
def sawD (c : Call) : List Dep := if c.end_ = 0 then c.ctx else if c.kind = 1 then putD c.ctx ⟨elt c.keys 0, c.stamp⟩ else c.got.foldl sawStep c.ctx
def sawD2 (c : Call) : List Dep := if c.end_ = 0 then c.ctx else if c.kind = 1 then putD c.ctx ⟨elt c.keys 0, c.stamp⟩ else c.got.foldl sawStep2 (joinD c.ctx (cameD c))
theorem ansGood_yes {a : Answer} (h : ansGood a = true) (hy : a.yes = true) : verOk a.ver = true ∧ a.ver.key = a.key := by
  unfold ansGood at h; rw [hy] at h; simpa using h
theorem ansGood_no {a : Answer} (h : ansGood a = true) (hy : a.yes = false) : a.ver = ver0 := by
  unfold ansGood at h; rw [hy] at h; simpa [verIs] using h
theorem verOk_parts {v : Ver} (h : verOk v = true) : keyB v.key = true ∧ stampOk v.stamp = true ∧ depsOk v.deps = true := by
  simp only [verOk, Bool.and_eq_true] at h
  exact ⟨h.1.1.1.1.1.1, h.1.1.1.1.1.2, h.1.2⟩
theorem ansGood_deps {a : Answer} (h : ansGood a = true) : depsOk a.ver.deps = true := by
  cases hy : a.yes
  · rw [ansGood_no h hy]; rfl
  · exact (verOk_parts (ansGood_yes h hy).1).2.2
theorem ansGood_dep {a : Answer} (h : ansGood a = true) (hy : a.yes = true) : depOk a.ver.dep = true ∧ a.ver.dep = ⟨a.key, a.ver.stamp⟩ := by
  have h1 := ansGood_yes h hy
  have h2 := verOk_parts h1.1
  refine ⟨by simp [depOk, Ver.dep, h2.1, h2.2.1], ?_⟩
  rw [← h1.2]; rfl
def cameS : List Answer → Int → Stamp
  | [], _ => zst
  | a :: r, key => smax (atD a.ver.deps key) (cameS r key)
def topS : List Answer → Int → Stamp
  | [], _ => zst
  | a :: r, key => smax (if a.yes = true ∧ a.key = key then a.ver.stamp else zst) (topS r key)
theorem cameS_ok : ∀ {l : List Answer}, (∀ a ∈ l, ansGood a = true) → ∀ key, SOk (cameS l key)
  | [], _, _ => Or.inl rfl
  | a :: r, h, key => smax_ok (atD_ok (ansGood_deps (h a (by simp))) key) (cameS_ok (fun b hb => h b (by simp [hb])) key)
theorem topS_ok : ∀ {l : List Answer}, (∀ a ∈ l, ansGood a = true) → ∀ key, SOk (topS l key)
  | [], _, _ => Or.inl rfl
  | a :: r, h, key => by
    refine smax_ok ?_ (topS_ok (l := r) (fun b hb => h b (by simp [hb])) key)
    split
    · rename_i hy
      exact Or.inr (verOk_parts (ansGood_yes (h a (by simp)) hy.1).1).2.1
    · exact Or.inl rfl
theorem join_fold : ∀ {l : List Answer} {acc : List Dep}, depsOk acc = true → (∀ a ∈ l, ansGood a = true) → depsOk (l.foldl joinStep acc) = true ∧ ∀ key, atD (l.foldl joinStep acc) key = smax (atD acc key) (cameS l key)
  | [], acc, ha, _ => ⟨ha, fun key => by show atD acc key = smax (atD acc key) zst; rw [smax_zero' (atD_ok ha key)]⟩
  | a :: r, acc, ha, h => by
    have hd := ansGood_deps (h a (by simp))
    have h1 : depsOk (joinStep acc a) = true := depsOk_join ha fun d hd' => depsOk_all hd hd'
    have h2 := join_fold (l := r) h1 fun b hb => h b (by simp [hb])
    refine ⟨h2.1, fun key => ?_⟩
    show atD (r.foldl joinStep (joinStep acc a)) key = _
    rw [h2.2 key]
    unfold joinStep
    rw [atD_join ha hd, smax_assoc]; rfl
theorem saw2_fold : ∀ {l : List Answer} {acc : List Dep}, depsOk acc = true → (∀ a ∈ l, ansGood a = true) → depsOk (l.foldl sawStep2 acc) = true ∧ ∀ key, atD (l.foldl sawStep2 acc) key = smax (atD acc key) (topS l key)
  | [], acc, ha, _ => ⟨ha, fun key => by show atD acc key = smax (atD acc key) zst; rw [smax_zero' (atD_ok ha key)]⟩
  | a :: r, acc, ha, h => by
    have hg := h a (by simp)
    cases hy : a.yes
    · have e : sawStep2 acc a = acc := by unfold sawStep2; rw [hy]; simp
      have h2 := saw2_fold (l := r) ha fun b hb => h b (by simp [hb])
      rw [List.foldl_cons, e]
      refine ⟨h2.1, fun key => ?_⟩
      rw [h2.2 key]
      show _ = smax _ (smax (if a.yes = true ∧ a.key = key then a.ver.stamp else zst) (topS r key))
      rw [if_neg (by rw [hy]; simp), smax_zero (topS_ok (l := r) (fun b hb => h b (by simp [hb])) key)]
    · have hd := ansGood_dep hg hy
      have e : sawStep2 acc a = putD acc ⟨a.key, a.ver.stamp⟩ := by unfold sawStep2; rw [hy]; simp
      have hst : stampOk a.ver.stamp = true := (verOk_parts (ansGood_yes hg hy).1).2.1
      have h2 := saw2_fold (l := r) (depsOk_put ha (hd.2 ▸ hd.1)) fun b hb => h b (by simp [hb])
      rw [List.foldl_cons, e]
      refine ⟨h2.1, fun key => ?_⟩
      rw [h2.2 key, atD_put key ha hst]
      show _ = smax _ (smax (if a.yes = true ∧ a.key = key then a.ver.stamp else zst) (topS r key))
      by_cases hk : a.key = key
      · rw [if_pos hk, if_pos ⟨hy, hk⟩, smax_assoc]
      · rw [if_neg hk, if_neg fun h => hk h.2, smax_zero (topS_ok (l := r) (fun b hb => h b (by simp [hb])) key)]
theorem saw_fold : ∀ {l : List Answer} {acc : List Dep}, depsOk acc = true → (∀ a ∈ l, ansGood a = true) → depsOk (l.foldl sawStep acc) = true ∧ ∀ key, atD (l.foldl sawStep acc) key = smax (atD acc key) (smax (cameS l key) (topS l key))
  | [], acc, ha, _ => ⟨ha, fun key => by show atD acc key = smax (atD acc key) (smax zst zst); rw [smax_zero (Or.inl rfl), smax_zero' (atD_ok ha key)]⟩
  | a :: r, acc, ha, h => by
    have hg := h a (by simp)
    have hr : ∀ b ∈ r, ansGood b = true := fun b hb => h b (by simp [hb])
    cases hy : a.yes
    · have e : sawStep acc a = acc := by unfold sawStep; rw [hy]; simp
      have h2 := saw_fold (l := r) ha hr
      rw [List.foldl_cons, e]
      refine ⟨h2.1, fun key => ?_⟩
      rw [h2.2 key]
      show _ = smax _ (smax (smax (atD a.ver.deps key) (cameS r key)) (smax (if a.yes = true ∧ a.key = key then a.ver.stamp else zst) (topS r key)))
      rw [if_neg (by rw [hy]; simp), smax_zero (topS_ok hr key), ansGood_no hg hy]
      show _ = smax _ (smax (smax zst (cameS r key)) (topS r key))
      rw [smax_zero (cameS_ok hr key)]
    · have hd := ansGood_dep hg hy
      have hdd := ansGood_deps hg
      have hv := ansGood_yes hg hy
      have e : sawStep acc a = putD (joinD acc a.ver.deps) a.ver.dep := by unfold sawStep; rw [hy]; simp
      have hst : stampOk a.ver.dep.stamp = true := (verOk_parts hv.1).2.1
      have hj : depsOk (joinD acc a.ver.deps) = true := depsOk_join ha fun d hd' => depsOk_all hdd hd'
      have h2 := saw_fold (l := r) (depsOk_put hj hd.1) hr
      rw [List.foldl_cons, e]
      refine ⟨h2.1, fun key => ?_⟩
      rw [h2.2 key, atD_put key hj hst, atD_join ha hdd]
      show _ = smax _ (smax (smax (atD a.ver.deps key) (cameS r key)) (smax (if a.yes = true ∧ a.key = key then a.ver.stamp else zst) (topS r key)))
      have e2 : a.ver.dep.key = a.key := hv.2
      rw [e2]
      have e3 : a.ver.dep.stamp = a.ver.stamp := rfl
      rw [e3]
      apply stamp_ext
      intro x
      by_cases hk : a.key = key
      · rw [if_pos hk, if_pos ⟨hy, hk⟩]
        simp only [smax_less]
        cases stampLess x (atD acc key) <;> cases stampLess x (atD a.ver.deps key) <;> cases stampLess x (cameS r key) <;> cases stampLess x a.ver.stamp <;> simp
      · rw [if_neg hk, if_neg fun h => hk h.2, smax_zero (topS_ok hr key)]
        simp only [smax_less]
        cases stampLess x (atD acc key) <;> cases stampLess x (atD a.ver.deps key) <;> cases stampLess x (cameS r key) <;> simp
theorem saw_eq {c : Call} (hc : depsOk c.ctx = true) (h : ∀ a ∈ c.got, ansGood a = true) : sawD2 c = sawD c := by
  unfold sawD sawD2
  split
  · rfl
  · split
    · rfl
    · have hcame := join_fold (acc := []) rfl h
      have hcd : depsOk (cameD c) = true := hcame.1
      have hj : depsOk (joinD c.ctx (cameD c)) = true := depsOk_join hc fun d hd => depsOk_all hcd hd
      have h1 := saw2_fold hj h
      have h2 := saw_fold hc h
      refine deps_ext h1.1 h2.1 fun key => ?_
      rw [h1.2 key, h2.2 key, atD_join hc hcd]
      have e : atD (cameD c) key = cameS c.got key := by
        show atD (c.got.foldl joinStep []) key = _
        rw [hcame.2 key]
        show smax zst _ = _
        exact smax_zero (cameS_ok h key)
      rw [e, smax_assoc]
theorem callOk_parts {c : Call} {time : Int} (h : callOk c time = true) : depsOk c.ctx = true ∧ (∀ a ∈ c.got, ansGood a = true) ∧ keysOk c = true ∧ clientB c.client = true ∧ 1 ≤ c.begin_ ∧ c.begin_ ≤ time := by
  simp only [callOk, callHead, gotOk, Bool.and_eq_true] at h
  have hg : gotsOk c = true := h.1.1.2.1.1
  have hb := h.1.1.1.1.2
  simp [inB] at hb
  refine ⟨h.1.1.1.1.1.1.2, fun a ha => ?_, h.1.1.1.1.1.1.1.1.2, h.1.1.1.1.1.1.1.1.1.1, hb.1, hb.2⟩
  obtain ⟨k, hk, rfl⟩ := mem_elt ha
  exact (gotsOk_at hg hk).1
theorem callOk_later {c : Call} {t t' : Int} (h : callOk c t = true) (ht : t ≤ t') : callOk c t' = true := by
  simp only [callOk, callHead, Bool.and_eq_true] at h ⊢
  have h1 : inB c.begin_ 1 t' = true := by
    have := h.1.1.1.1.2
    simp [inB] at this ⊢; omega
  have h2 : callEnd c t' = true := by
    have := h.2
    unfold callEnd at this ⊢
    split
    · rename_i he; rwa [if_pos he] at this
    · rename_i he
      rw [if_neg he] at this
      have e : inB c.end_ (c.begin_ + 1) t' = true := by
        simp [inB] at this ⊢; omega
      have e' : inB c.end_ (c.begin_ + 1) t = true := by
        simp [inB] at this ⊢; omega
      rw [e]; rwa [e'] at this
  exact ⟨⟨⟨⟨⟨h.1.1.1.1.1, h1⟩, h.1.1.1.2⟩, h.1.1.2⟩, h.1.2⟩, h2⟩
theorem callOk_own {c : Call} {t : Int} (h : callOk c t = true) : callOk c (c.begin_ + c.end_) = true := by
  have hp := callOk_parts h
  simp only [callOk, callHead, Bool.and_eq_true] at h ⊢
  have he : c.end_ = 0 ∨ c.begin_ + 1 ≤ c.end_ := by
    have := h.2
    unfold callEnd at this
    by_cases h0 : c.end_ = 0
    · exact Or.inl h0
    · rw [if_neg h0] at this
      right
      simp [inB] at this; omega
  have h1 : inB c.begin_ 1 (c.begin_ + c.end_) = true := by simp [inB]; omega
  have h2 : callEnd c (c.begin_ + c.end_) = true := by
    have := h.2
    unfold callEnd at this ⊢
    by_cases h0 : c.end_ = 0
    · rwa [if_pos h0] at this ⊢
    · rw [if_neg h0] at this ⊢
      have e : inB c.end_ (c.begin_ + 1) (c.begin_ + c.end_) = true := by simp [inB]; omega
      have e' : inB c.end_ (c.begin_ + 1) t = true := by
        simp [inB] at this ⊢; omega
      rw [e]; rwa [e'] at this
  exact ⟨⟨⟨⟨⟨h.1.1.1.1.1, h1⟩, h.1.1.1.2⟩, h.1.1.2⟩, h.1.2⟩, h2⟩
end Go.Proofs.YtkoebplikhlapaaGreatDoor
