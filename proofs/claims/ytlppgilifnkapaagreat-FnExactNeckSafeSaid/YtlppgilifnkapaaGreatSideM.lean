/- The plain model: sides. -/
import Derived.Test.YtlppgilifnkapaaGreatCallM
import Derived.Test.YtlppgilifnkapaaGreatServ3
set_option linter.unusedVariables false
set_option linter.unusedSimpArgs false
set_option maxRecDepth 100000
namespace Go.Proofs.YtlppgilifnkapaaGreat
open Go Go.RowKit

def insV : List Ver → Ver → List Ver
  | [], v => [v]
  | x :: r, v => if verLess x v then x :: insV r v else v :: x :: r
def insV2 : List Ver → Ver → List Ver
  | [], v => [v]
  | x :: r, v => if verLess v x then v :: x :: r else x :: insV2 r v
theorem insV_at : ∀ {l : List Ver} {v : Ver} {n : Nat}, n ≤ l.length → (∀ i, i < n → verLess (elt l i) v = true) → (n < l.length → verLess (elt l n) v = false) → l.take n ++ v :: l.drop n = insV l v
  | [], v, n, h, _, _ => by have : n = 0 := by simpa using h
                            subst this; rfl
  | x :: r, v, 0, _, _, h2 => by
    have := h2 (by simp)
    have e : verLess x v = false := this
    simp [insV, e]
  | x :: r, v, n + 1, h, h1, h2 => by
    have e : verLess x v = true := h1 0 (by omega)
    have ih := insV_at (l := r) (v := v) (n := n) (by simpa using h) (fun i hi => h1 (i + 1) (by omega)) (fun hl => h2 (by simpa using hl))
    simp [insV, e, ih]
theorem dep_total {a b : Dep} (h : depLess a b = false) (h' : depLess b a = false) : a = b := by
  obtain ⟨k, ⟨t, s⟩⟩ := a
  obtain ⟨k', ⟨t', s'⟩⟩ := b
  simp [depLess, stampLess] at h h'
  simp
  omega
theorem depLess_asymm {a b : Dep} (h : depLess a b = true) : depLess b a = false := by
  obtain ⟨k, ⟨t, s⟩⟩ := a
  obtain ⟨k', ⟨t', s'⟩⟩ := b
  simp [depLess, stampLess] at h ⊢
  omega
theorem depLess_irrefl (a : Dep) : depLess a a = false := by simp [depLess, stampLess]
theorem depLess_trans {a b d : Dep} (h : depLess a b = true) (h' : depLess b d = true) : depLess a d = true := by
  obtain ⟨k, ⟨t, s⟩⟩ := a
  obtain ⟨k', ⟨t', s'⟩⟩ := b
  obtain ⟨k2, ⟨t2, s2⟩⟩ := d
  simp [depLess, stampLess] at h h' ⊢
  omega
def VS (l : List Ver) : Prop := l.Pairwise fun a b => verLess a b = true
theorem insV2_eq : ∀ {l : List Ver} {v : Ver}, (∀ x ∈ l, x.dep ≠ v.dep) → insV2 l v = insV l v
  | [], _, _ => rfl
  | x :: r, v, h => by
    have hx := h x (by simp)
    have ih := insV2_eq (l := r) (v := v) fun y hy => h y (by simp [hy])
    unfold insV insV2
    cases h1 : verLess v x
    · cases h2 : verLess x v
      · exact absurd (dep_total h2 h1) hx
      · simp [ih]
    · rw [show verLess x v = false from depLess_asymm h1]; simp
theorem insV_mem : ∀ {l : List Ver} {v x : Ver}, x ∈ insV l v ↔ x = v ∨ x ∈ l
  | [], v, x => by simp [insV]
  | y :: r, v, x => by
    unfold insV
    split
    · rw [List.mem_cons, insV_mem (l := r), List.mem_cons]
      constructor
      · rintro (h | h | h) <;> simp [h]
      · rintro (h | h | h) <;> simp [h]
    · rw [List.mem_cons]
theorem insV_len (l : List Ver) (v : Ver) : (insV l v).length = l.length + 1 := by
  induction l with
  | nil => rfl
  | cons x r ih => unfold insV; split <;> simp [ih]
theorem insV_sorted : ∀ {l : List Ver} {v : Ver}, VS l → (∀ x ∈ l, x.dep ≠ v.dep) → VS (insV l v)
  | [], v, _, _ => by simp [insV, VS]
  | x :: r, v, h, hd => by
    unfold VS at h
    rw [List.pairwise_cons] at h
    unfold insV
    split
    · rename_i hlt
      unfold VS
      rw [List.pairwise_cons]
      refine ⟨fun y hy => ?_, insV_sorted h.2 fun y hy => hd y (by simp [hy])⟩
      rcases insV_mem.1 hy with rfl | hy
      · exact hlt
      · exact h.1 y hy
    · rename_i hlt
      have h1 : verLess v x = true := by
        cases h1 : verLess v x
        · simp only [Bool.not_eq_true] at hlt
          exact absurd (dep_total hlt h1) (hd x (by simp))
        · rfl
      unfold VS
      rw [List.pairwise_cons, List.pairwise_cons]
      refine ⟨fun y hy => ?_, h.1, h.2⟩
      rcases List.mem_cons.1 hy with rfl | hy
      · exact h1
      · exact depLess_trans h1 (h.1 y hy)
theorem place_neg {l : List Ver} {d : Dep} (h : placeOf l d < 0) : ∀ x ∈ l, x.dep ≠ d := fun x hx he => by
  obtain ⟨k, hk, rfl⟩ := mem_elt hx
  have := idxI_all h k hk
  simp [depIs] at this; exact this he
theorem place_none {l : List Ver} {d : Dep} (h : ∀ x ∈ l, x.dep ≠ d) : placeOf l d < 0 := by
  rcases Int.lt_or_le (placeOf l d) 0 with hn | hn
  · exact hn
  · obtain ⟨k, hk, hp⟩ := idxI_any hn
    simp [depIs] at hp
    exact absurd hp (h _ (elt_mem hk))
theorem place_hit {l : List Ver} {d : Dep} (h : 0 ≤ placeOf l d) : (placeOf l d).toNat < l.length ∧ (elt l (placeOf l d).toNat).dep = d := by
  unfold placeOf idxI at *
  split at h
  · rename_i k hk
    obtain ⟨h1, h2, _⟩ := List.findIdx?_eq_some_iff_getElem.1 hk
    refine ⟨by simpa using h1, ?_⟩
    simp only [Int.toNat_natCast]
    simpa [elt, h1, depIs] using h2
  · omega
def addV (out : List Ver) (v : Ver) : List Ver := if placeOf out v.dep < 0 then insV out v else out
def addV2 (out : List Ver) (v : Ver) : List Ver := if placeOf out v.dep < 0 then insV2 out v else out
theorem addV2_eq (out : List Ver) (v : Ver) : addV2 out v = addV out v := by
  unfold addV addV2
  split
  · rename_i h; exact insV2_eq (place_neg h)
  · rfl
theorem addV_sorted {out : List Ver} (v : Ver) (h : VS out) : VS (addV out v) := by
  unfold addV; split
  · rename_i hp; exact insV_sorted h (place_neg hp)
  · exact h
theorem addV_mem {out : List Ver} {v x : Ver} (h : x ∈ addV out v) : x = v ∨ x ∈ out := by
  unfold addV at h; split at h
  · exact insV_mem.1 h
  · exact Or.inr h
theorem addV_len (out : List Ver) (v : Ver) : (addV out v).length ≤ out.length + 1 := by
  unfold addV; split
  · rw [insV_len]; exact Nat.le_refl _
  · omega
theorem adds_sorted : ∀ {l out : List Ver}, VS out → VS (l.foldl addV out)
  | [], _, h => h
  | v :: r, _, h => adds_sorted (l := r) (addV_sorted v h)
theorem adds_mem : ∀ {l out : List Ver} {x : Ver}, x ∈ l.foldl addV out → x ∈ l ∨ x ∈ out
  | [], _, _, h => Or.inr h
  | v :: r, out, x, h => by
    rcases adds_mem (l := r) h with h1 | h1
    · exact Or.inl (by simp [h1])
    · rcases addV_mem h1 with rfl | h2
      · exact Or.inl (by simp)
      · exact Or.inr h2
theorem adds_len : ∀ (l out : List Ver), (l.foldl addV out).length ≤ out.length + l.length
  | [], _ => by simp
  | v :: r, out => by
    have := adds_len r (addV out v)
    have h2 := addV_len out v
    simp at this ⊢; omega
theorem insV_end : ∀ {l : List Ver} {v : Ver}, (∀ x ∈ l, verLess x v = true) → insV l v = l ++ [v]
  | [], _, _ => rfl
  | x :: r, v, h => by
    unfold insV
    rw [h x (by simp), if_pos rfl, insV_end fun y hy => h y (by simp [hy])]; rfl
theorem adds_chain : ∀ {l out : List Ver}, VS (out ++ l) → l.foldl addV out = out ++ l
  | [], out, _ => by simp
  | v :: r, out, h => by
    have h1 : ∀ x ∈ out, verLess x v = true := fun x hx => (List.pairwise_append.1 h).2.2 x hx v (by simp)
    have h2 : addV out v = out ++ [v] := by
      unfold addV
      rw [if_pos (place_none fun x hx he => ?_), insV_end h1]
      have := h1 x hx
      unfold verLess at this
      rw [he, depLess_irrefl] at this; cases this
    rw [List.foldl_cons, h2, adds_chain (by simpa using h)]; simp
theorem adds_take {l out : List Ver} {k : Nat} (h : k < l.length) : (l.take (k + 1)).foldl addV out = addV ((l.take k).foldl addV out) (elt l k) := by
  rw [take_elt h, List.foldl_append]; rfl
def sideL (w : Neck) (s : Int) : List Ver := (elt w.servers (2 * s + 1).toNat).vers.foldl addV (elt w.servers (2 * s).toNat).vers
theorem pairwise_adj {α : Type} [Inhabited α] {R : α → α → Prop} (tr : ∀ {a b d}, R a b → R b d → R a d) {l : List α} (h : ∀ i, 0 < i → i < l.length → R (elt l (i - 1)) (elt l i)) : l.Pairwise R := by
  rw [List.pairwise_iff_getElem]
  intro i j hi hj hij
  have e : ∀ k (hk : k < l.length), l[k] = elt l k := fun k hk => by simp [elt, hk]
  rw [e i hi, e j hj]
  obtain ⟨n, rfl⟩ : ∃ n, j = i + 1 + n := ⟨j - (i + 1), by omega⟩
  clear hij
  induction n with
  | zero => have := h (i + 1) (by omega) hj; simpa using this
  | succ n ih =>
    have h1 := ih (by omega)
    have h2 := h (i + 1 + (n + 1)) (by omega) hj
    rw [show i + 1 + (n + 1) - 1 = i + 1 + n from by omega] at h2
    exact tr h1 h2
theorem chain_sorted {l : List Ver} (h : chainOk l = true) : VS l := by
  unfold chainOk at h
  rw [Bool.and_eq_true, allN_iff] at h
  refine pairwise_adj (R := fun a b => verLess a b = true) (fun h1 h2 => depLess_trans h1 h2) fun i h0 hi => ?_
  have := h.2 i hi
  unfold linkB at this
  rw [Bool.and_eq_true, Bool.or_eq_true, decide_eq_true_eq] at this
  rcases this.2 with h3 | h3
  · omega
  · exact h3
theorem chain_all {l : List Ver} (h : chainOk l = true) : ∀ x ∈ l, verOk x = true := fun x hx => by
  obtain ⟨k, hk, rfl⟩ := mem_elt hx
  exact chain_at h hk
theorem chain_len {l : List Ver} (h : chainOk l = true) : l.length ≤ 80 := by
  unfold chainOk at h
  rw [Bool.and_eq_true, decide_eq_true_eq] at h; exact h.1
def calm (s : Server) : Bool := s.up && !decide (0 < ((s.waits.length : Int) + s.owes.length) + s.knows.length) && !hasB (fun x : Slot => x.stand == 2) s.slots
def neckSame (w : Neck) : Bool := neckOk w && decide (w.radio.length = 0) && allN w.servers.length (fun i => calm (elt w.servers i)) && decide (sideL w 0 = sideL w 1)
def atV (l : List Ver) (d : Dep) : Option Ver := if 0 ≤ placeOf l d then some (elt l (placeOf l d).toNat) else none
theorem atV_hit {l : List Ver} {d : Dep} {k : Nat} (hk : k < l.length) (h : ∀ i, i < k → depIs d (elt l i) = false) (hp : depIs d (elt l k) = true) : atV l d = some (elt l k) := by
  have e : placeOf l d = k := idx_hit hk h hp
  unfold atV; rw [e, if_pos (by omega)]; rfl
theorem atV_none {l : List Ver} {d : Dep} {k : Nat} (hk : l.length ≤ k) (h : ∀ i, i < k → depIs d (elt l i) = false) : atV l d = none := by
  have e : placeOf l d = -1 := idx_none hk h
  unfold atV; rw [e, if_neg (by omega)]
theorem atV_some (l : List Ver) (d : Dep) : (atV l d).isSome = decide (0 ≤ placeOf l d) := by
  unfold atV; split <;> simp_all
structure InsAt (l : List Ver) (v : Ver) (k : Nat) (done : Bool) (out : List Ver) : Prop where
  hk : k ≤ l.length
  eq : insV2 l v = if done then out ++ l.drop k else out ++ insV2 (l.drop k) v
  len : out.length ≤ k + done.toNat
theorem InsAt.zero (l : List Ver) (v : Ver) : InsAt l v 0 false [] := ⟨Nat.zero_le _, by simp, by simp⟩
section
variable {l : List Ver} {v : Ver} {k : Nat} {out : List Ver} {done : Bool}
theorem InsAt.before (hp : InsAt l v k false out) (h : k < l.length) (he : verLess v (elt l k) = true) : InsAt l v (k + 1) true ((out ++ [v]) ++ [elt l k]) := by
  refine ⟨h, ?_, by have := hp.len; simp at this ⊢; omega⟩
  have := hp.eq
  rw [drop_elt h] at this
  simp only [insV2, if_pos he] at this
  rw [this]; simp
theorem InsAt.step (hp : InsAt l v k done out) (h : k < l.length) (he : done = true ∨ verLess v (elt l k) = false) : InsAt l v (k + 1) done (out ++ [elt l k]) := by
  refine ⟨h, ?_, by have := hp.len; simp; omega⟩
  have := hp.eq
  cases done
  · rw [drop_elt h] at this
    have he : verLess v (elt l k) = false := he.resolve_left (by simp)
    simp only [insV2, he] at this
    rw [this]; simp
  · simp only [if_true] at this ⊢
    rw [this, drop_elt h]; simp
theorem InsAt.endT (hp : InsAt l v k true out) (h : l.length ≤ k) : out = insV2 l v := by
  have := hp.eq
  rw [List.drop_eq_nil_of_le h] at this; simpa using this.symm
theorem InsAt.endF (hp : InsAt l v k false out) (h : l.length ≤ k) : out ++ [v] = insV2 l v := by
  have := hp.eq
  rw [List.drop_eq_nil_of_le h] at this; simpa [insV2] using this.symm
end
theorem insV2_len (l : List Ver) (v : Ver) : (insV2 l v).length = l.length + 1 := by
  induction l with
  | nil => rfl
  | cons x r ih => unfold insV2; split <;> simp [ih]
def sideTo (w : Neck) (s : Int) (j : Nat) : List Ver := (List.range j).foldl (fun out (i : Nat) => (elt w.servers (2 * s + i).toNat).vers.foldl addV out) []
theorem sideTo_succ (w : Neck) (s : Int) (j : Nat) : sideTo w s (j + 1) = (elt w.servers (2 * s + j).toNat).vers.foldl addV (sideTo w s j) := by
  unfold sideTo; rw [List.range_succ, List.foldl_append]; rfl
theorem sideTo_two {w : Neck} {s : Int} (h : VS (elt w.servers (2 * s).toNat).vers) : sideTo w s 2 = sideL w s := by
  rw [sideTo_succ, sideTo_succ]
  have e : sideTo w s 0 = [] := rfl
  rw [e]
  have := adds_chain (out := []) (l := (elt w.servers (2 * s + ((0 : Nat) : Int)).toNat).vers) (by simpa using h)
  rw [this]
  unfold sideL
  simp


def equalIn (l : List Ver) (v : Ver) : Bool := decide (0 ≤ placeOf l v.dep) && verIs (elt l (placeOf l v.dep).toNat) v
def sameCall (a b : Ver) : Bool := (a.client == b.client) && (a.call == b.call)
def slotOwned (x y : Slot) : Bool := (x.stand == 1) && (y.stand != 1) && decide (y.epoch ≤ x.epoch) && ((y.stand != 2) || (y.epoch == x.epoch))
def slotLeaving (x y : Slot) : Bool := (x.stand == 2) && (y.stand != 1) && decide (y.epoch < x.epoch)
def slotFits (a b : Slot) : Bool := slotOwned a b || slotOwned b a || slotLeaving a b || slotLeaving b a
def verSafe (own other : List Ver) (side : Int) (k : Nat) : Bool := (allN k fun j => !sameCall (elt own j) (elt own k)) && hasAll own (elt own k).deps && (if 0 ≤ placeOf other (elt own k).dep then equalIn other (elt own k) else siteSide (elt own k).stamp.site == side)
def callSafe (own : List Ver) (side : Int) (c : Call) : Bool := ((c.client != side) || (c.kind != 1) || (c.end_ == 0)) || (decide (0 ≤ placeOf own ⟨elt c.keys 0, c.stamp⟩) && ((elt own (placeOf own ⟨elt c.keys 0, c.stamp⟩).toNat).val == c.val) && ((elt own (placeOf own ⟨elt c.keys 0, c.stamp⟩).toNat).client == c.client) && ((elt own (placeOf own ⟨elt c.keys 0, c.stamp⟩).toNat).call == c.num))
def srv (w : Neck) (k : Int) : Server := elt w.servers k.toNat
def slotsSafe (w : Neck) (side : Int) : Bool := allN (srv w (2 * side)).slots.length fun i => slotFits (elt (srv w (2 * side)).slots i) (elt (srv w (2 * side + 1)).slots i)
def waitBad (other : List Ver) (v : Ver) : Bool := !equalIn other v
def sideSafe (w : Neck) (side : Int) : Bool :=
  allN (sideL w side).length (verSafe (sideL w side) (sideL w (1 - side)) side) && slotsSafe w side && allN w.calls.length (fun i => callSafe (sideL w side) side (elt w.calls i)) &&
    hasAll (sideL w side) (elt w.seen side.toNat) && !hasB (waitBad (sideL w (1 - side))) ((srv w (2 * side)).waits ++ (srv w (2 * side + 1)).waits)
def neckSafe (w : Neck) : Bool := neckOk w && sideSafe w 0 && sideSafe w 1
def slotTurns (x y : Slot) : Bool := (y.stand == 1) || (x.stand == 0) || ((x.stand == 2) && (y.stand == 2) && decide (x.epoch < y.epoch))
def slotRight (x y : Slot) : Bool := !((x.stand == 0) || (y.stand == 1) || decide (x.epoch < y.epoch)) && !((x.stand == 1) && (y.stand == 2) && (y.epoch != x.epoch)) && !((x.stand == 2) && (y.epoch == x.epoch))
def slotFits2 (x y : Slot) : Bool := if slotTurns x y then slotRight y x else slotRight x y
theorem slotFits_eq {x y : Slot} (hx : slotGood x = true) (hy : slotGood y = true) : slotFits2 x y = slotFits x y := by
  obtain ⟨e, s⟩ := x
  obtain ⟨e', s'⟩ := y
  have h1 : s = 0 ∨ s = 1 ∨ s = 2 := by simp [slotGood, inB] at hx; omega
  have h2 : s' = 0 ∨ s' = 1 ∨ s' = 2 := by simp [slotGood, inB] at hy; omega
  unfold slotFits2 slotTurns slotRight slotFits slotOwned slotLeaving
  rw [Bool.eq_iff_iff]
  rcases h1 with rfl | rfl | rfl <;> rcases h2 with rfl | rfl | rfl <;> simp <;> (try split) <;> (try simp) <;> (try omega)
def atAll (l : List Ver) (ds : List Dep) : Bool := allN ds.length fun k => decide (0 ≤ placeOf l (elt ds k))
theorem atAll_eq (l : List Ver) (ds : List Dep) : atAll l ds = hasAll l ds := by
  unfold atAll hasAll
  rw [hasB_allN]
  exact allN_congr rfl fun i _ => by unfold missing; rw [Bool.eq_iff_iff]; simp
def closed2 (l : List Ver) : Bool := allN l.length fun i => atAll l (elt l i).deps
def once2 (l : List Ver) : Bool := allN l.length fun i => allN i fun k => !sameCall (elt l i) (elt l k)
def slots2 (w : Neck) (side : Int) : Bool := allN 3 fun i => slotFits2 (elt (srv w (2 * side)).slots i) (elt (srv w (2 * side + 1)).slots i)
def kept2 (w : Neck) (side : Int) (l : List Ver) : Bool := allN w.calls.length (fun i => callSafe l side (elt w.calls i)) && atAll l (elt w.seen side.toNat)
def waits2 (w : Neck) (side : Int) (far : List Ver) : Bool := (allN (srv w (2 * side)).waits.length fun k => equalIn far (elt (srv w (2 * side)).waits k)) && (allN (srv w (2 * side + 1)).waits.length fun k => equalIn far (elt (srv w (2 * side + 1)).waits k))
def cross1 (a b : List Ver) : Bool := allN a.length fun i => if 0 ≤ placeOf b (elt a i).dep then verIs (elt b (placeOf b (elt a i).dep).toNat) (elt a i) else siteSide (elt a i).stamp.site == 0
def cross2 (a b : List Ver) : Bool := allN b.length fun i => decide (0 ≤ placeOf a (elt b i).dep) || (siteSide (elt b i).stamp.site == 1)
def neckSafe2 (w : Neck) : Bool := neckOk w && cross1 (sideL w 0) (sideL w 1) && cross2 (sideL w 0) (sideL w 1) && (closed2 (sideL w 0) && closed2 (sideL w 1) && once2 (sideL w 0) && once2 (sideL w 1) && slots2 w 0 && slots2 w 1 && kept2 w 0 (sideL w 0) && kept2 w 1 (sideL w 1) && waits2 w 0 (sideL w 1) && waits2 w 1 (sideL w 0))
theorem sorted_uniq {l : List Ver} (h : VS l) {i j : Nat} (hi : i < l.length) (hj : j < l.length) (he : (elt l i).dep = (elt l j).dep) : i = j := by
  have e : ∀ k (hk : k < l.length), l[k] = elt l k := fun k hk => by simp [elt, hk]
  have key : ∀ {i j : Nat}, i < j → i < l.length → j < l.length → (elt l i).dep ≠ (elt l j).dep := fun {i j} hij hi hj heq => by
    have := (List.pairwise_iff_getElem.1 h) i j hi hj hij
    rw [e i hi, e j hj] at this
    unfold verLess at this
    rw [heq, depLess_irrefl] at this; cases this
  rcases Nat.lt_trichotomy i j with hlt | rfl | hlt
  · exact absurd he (key hlt hi hj)
  · rfl
  · exact absurd he.symm (key hlt hj hi)
theorem place_at {l : List Ver} (h : VS l) {i : Nat} (hi : i < l.length) : placeOf l (elt l i).dep = i := by
  have h0 : 0 ≤ placeOf l (elt l i).dep := by
    rcases Int.lt_or_le (placeOf l (elt l i).dep) 0 with hn | hn
    · exact absurd rfl (place_neg hn _ (elt_mem hi))
    · exact hn
  have h1 := place_hit h0
  have := sorted_uniq h h1.1 hi h1.2
  omega
def safePart (own other : List Ver) (side : Int) (k : Nat) : Bool := if 0 ≤ placeOf other (elt own k).dep then equalIn other (elt own k) else siteSide (elt own k).stamp.site == side
theorem verSafe_all (own other : List Ver) (side : Int) : allN own.length (verSafe own other side) = (once2 own && closed2 own && allN own.length (safePart own other side)) := by
  unfold once2 closed2
  rw [← allN_and, ← allN_and]
  refine allN_congr rfl fun i _ => ?_
  unfold verSafe safePart
  rw [atAll_eq]
  congr 2
  exact allN_congr rfl fun k _ => by unfold sameCall; rw [Bool.beq_comm, Bool.beq_comm (a := (elt own k).call)]
theorem cross_eq {a b : List Ver} (ha : VS a) (hb : VS b) : (cross1 a b && cross2 a b) = (allN a.length (safePart a b 0) && allN b.length (safePart b a 1)) := by
  have e1 : cross1 a b = allN a.length (safePart a b 0) := allN_congr rfl fun i _ => by
    unfold safePart equalIn
    split
    · rename_i h; simp [h]
    · rfl
  rw [e1]
  cases h1 : allN a.length (safePart a b 0)
  · rfl
  · rw [Bool.true_and, Bool.true_and]
    refine allN_congr rfl fun i hi => ?_
    unfold safePart
    by_cases hp : 0 ≤ placeOf a (elt b i).dep
    · have h2 := place_hit hp
      have h3 := (allN_iff.1 h1) _ h2.1
      unfold safePart at h3
      rw [h2.2, place_at hb hi, if_pos (by omega)] at h3
      unfold equalIn at h3
      rw [h2.2, place_at hb hi] at h3
      simp only [Int.toNat_natCast, verIs, Bool.and_eq_true, decide_eq_true_eq] at h3
      rw [if_pos hp]
      unfold equalIn verIs
      rw [← h3.2]
      simp [hp]
    · rw [if_neg hp]
      simp [hp]
theorem slots2_eq {w : Neck} {side : Int} (h0 : (srv w (2 * side)).slots.length = 3) (hg : ∀ i, i < 3 → slotGood (elt (srv w (2 * side)).slots i) = true) (hg2 : ∀ i, i < 3 → slotGood (elt (srv w (2 * side + 1)).slots i) = true) : slots2 w side = slotsSafe w side := by
  unfold slots2 slotsSafe
  rw [h0]
  exact allN_congr rfl fun i hi => slotFits_eq (hg i hi) (hg2 i hi)
theorem elt_append {α : Type} [Inhabited α] (a b : List α) (i : Nat) : elt (a ++ b) i = if i < a.length then elt a i else elt b (i - a.length) := by
  unfold elt
  split
  · rename_i h; simp [List.getD_eq_getElem?_getD, List.getElem?_append_left h]
  · rename_i h; simp [List.getD_eq_getElem?_getD, List.getElem?_append_right (Nat.le_of_not_lt h)]
theorem waits2_eq (w : Neck) (side : Int) (far : List Ver) : waits2 w side far = !hasB (waitBad far) ((srv w (2 * side)).waits ++ (srv w (2 * side + 1)).waits) := by
  rw [hasB_allN]
  unfold waits2
  rw [Bool.eq_iff_iff, Bool.and_eq_true, allN_iff, allN_iff, allN_iff]
  constructor
  · rintro ⟨h1, h2⟩ i hi
    rw [elt_append]
    unfold waitBad
    rw [Bool.not_not]
    rw [List.length_append] at hi
    split
    · rename_i h; exact h1 i h
    · rename_i h; exact h2 _ (by omega)
  · intro h
    refine ⟨fun i hi => ?_, fun i hi => ?_⟩
    · have := h i (by rw [List.length_append]; omega)
      rw [elt_append, if_pos hi] at this
      simpa [waitBad] using this
    · have := h ((srv w (2 * side)).waits.length + i) (by rw [List.length_append]; omega)
      rw [elt_append, if_neg (by omega), Nat.add_sub_cancel_left] at this
      simpa [waitBad] using this
theorem neckOk_server {w : Neck} (h : neckOk w = true) {k : Nat} (hk : k < 4) : serverOk (elt w.servers k) = true ∧ w.servers.length = 4 ∧ (elt w.servers k).site = k := by
  simp only [neckOk, Bool.and_eq_true] at h
  have hl : w.servers.length = 4 := by
    have := h.1.1.1.1
    simp [neckHead] at this; omega
  have := (allN_iff.1 h.1.1.1.2) k (by omega)
  unfold siteAt at this
  rw [Bool.and_eq_true] at this
  exact ⟨this.2, hl, by simpa using this.1⟩
theorem serverOk_head {s : Server} (h : serverOk s = true) : serverHead s = true := by
  simp only [serverOk, Bool.and_eq_true] at h; exact h.1.1.1.1
theorem serverOk_slots {s : Server} (h : serverOk s = true) : ∀ i, i < 3 → slotGood (elt s.slots i) = true := fun i hi => by
  have h3 := (head_parts (serverOk_head h)).1
  simp only [serverOk, Bool.and_eq_true] at h
  exact (allN_iff.1 h.1.1.1.2) i (by omega)
theorem sideL_sorted {w : Neck} (h : neckOk w = true) {s : Int} (h0 : 0 ≤ s) (h1 : s ≤ 1) : VS (sideL w s) := by
  have := neckOk_server h (k := (2 * s).toNat) (by omega)
  exact adds_sorted (chain_sorted (head_parts (serverOk_head this.1)).2.1)
theorem neckSafe_eq (w : Neck) : neckSafe2 w = neckSafe w := by
  unfold neckSafe2 neckSafe
  cases hok : neckOk w
  · simp
  · have s0 := sideL_sorted hok (s := 0) (by omega) (by omega)
    have s1 := sideL_sorted hok (s := 1) (by omega) (by omega)
    have hc := cross_eq s0 s1
    have sl : ∀ side : Int, 0 ≤ side → side ≤ 1 → slots2 w side = slotsSafe w side := fun side g0 g1 => by
      have k0 := neckOk_server hok (k := (2 * side).toNat) (by omega)
      have k1 := neckOk_server hok (k := (2 * side + 1).toNat) (by omega)
      exact slots2_eq (head_parts (serverOk_head k0.1)).1 (serverOk_slots k0.1) (serverOk_slots k1.1)
    unfold sideSafe kept2
    rw [sl 0 (by omega) (by omega), sl 1 (by omega) (by omega), waits2_eq, waits2_eq, verSafe_all, verSafe_all, atAll_eq, atAll_eq]
    simp only [Bool.true_and, show (1 : Int) - 0 = 1 from rfl, show (1 : Int) - 1 = 0 from rfl]
    rw [hc]
    generalize allN (sideL w 0).length (safePart (sideL w 0) (sideL w 1) 0) = b1
    generalize allN (sideL w 1).length (safePart (sideL w 1) (sideL w 0) 1) = b2
    generalize closed2 (sideL w 0) = b3
    generalize closed2 (sideL w 1) = b4
    generalize once2 (sideL w 0) = b5
    generalize once2 (sideL w 1) = b6
    ac_rfl

end Go.Proofs.YtlppgilifnkapaaGreat
