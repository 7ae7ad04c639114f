/- The plain model: what the program and its reference compute, said of plain data. No program is in sight. -/
import Derived.Test.YtlppgilifnkapaaGreatData
set_option linter.unusedVariables false
set_option linter.unusedSimpArgs false
namespace Go.Proofs.YtlppgilifnkapaaGreat

def i64r (n : Int) : Prop := -9223372036854775808 ≤ n ∧ n ≤ 9223372036854775807
def inB (n low high : Int) : Bool := decide (low ≤ n) && decide (n ≤ high)
def siteB (n : Int) : Bool := inB n 0 3
def keyB (n : Int) : Bool := inB n 0 5
def clientB (n : Int) : Bool := inB n 0 1
def stampOk (s : Stamp) : Bool := inB s.time 1 9999 && siteB s.site
def stampLess (a b : Stamp) : Bool := decide (a.time < b.time) || (a.time == b.time && decide (a.site < b.site))
def stampNone (s : Stamp) : Bool := s.time == 0 && s.site == 0
def stampFits (s : Stamp) : Bool := stampNone s || stampOk s
def siteSide (n : Int) : Int := if siteB n then n / 2 else -1
def depLess (a b : Dep) : Bool := decide (a.key < b.key) || (a.key == b.key && stampLess a.stamp b.stamp)
/-- A dependency list, all of whose keys are greater than 'last'. -/
def depsFrom (last : Int) : List Dep → Bool
  | [] => true
  | d :: r => inB d.key (last + 1) 5 && stampOk d.stamp && depsFrom d.key r
def depsOk (l : List Dep) : Bool := depsFrom (-1) l
/-- It holds of all numbers below n. -/
def allN (n : Nat) (f : Nat → Bool) : Bool := decide (∀ i, i < n → f i = true)
theorem allN_true {n k : Nat} {f : Nat → Bool} (h : ∀ i, i < k → f i = true) (hk : n ≤ k) : allN n f = true := by
  simp only [allN, decide_eq_true_eq]; exact fun i hi => h i (by omega)
theorem allN_false {n k : Nat} {f : Nat → Bool} (hk : k < n) (h : f k = false) : allN n f = false := by
  simp only [allN, decide_eq_false_iff_not]; exact fun hh => by rw [hh k hk] at h; cases h
theorem allN_next {k : Nat} {f : Nat → Bool} (h : ∀ i, i < k → f i = true) (hf : f k = true) : ∀ i, i < k + 1 → f i = true := fun i hi => by
  by_cases e : i = k
  · subst e; exact hf
  · exact h i (by omega)
theorem allN_iff {n : Nat} {f : Nat → Bool} : allN n f = true ↔ ∀ i, i < n → f i = true := by simp [allN]
theorem allN_congr {n m : Nat} {f g : Nat → Bool} (hn : n = m) (h : ∀ i, i < n → f i = g i) : allN n f = allN m g := by
  subst hn
  rw [Bool.eq_iff_iff, allN_iff, allN_iff]
  exact ⟨fun k i hi => by rw [← h i hi]; exact k i hi, fun k i hi => by rw [h i hi]; exact k i hi⟩
/-- Of a number below n. -/
def anyN (n : Nat) (f : Nat → Bool) : Bool := !allN n fun i => !f i

/-- One element of a chain: it is good, and greater than the one ahead of it. -/
def linkB {α : Type} [Inhabited α] (good : α → Bool) (less : α → α → Bool) (l : List α) (k : Nat) : Bool := good (elt l k) && (decide (k = 0) || less (elt l (k - 1)) (elt l k))
theorem link_test {α : Type} [Inhabited α] (good : α → Bool) (less : α → α → Bool) (l : List α) (k : Nat) :
    (!good (elt l k) || (decide (0 < (k : Int)) && !less (elt l ((k : Int) - 1).toNat) (elt l k))) = !linkB good less l k := by
  rw [show ((k : Int) - 1).toNat = k - 1 from by omega]
  unfold linkB
  rcases Nat.eq_zero_or_pos k with rfl | h
  · simp
  · have h2 : k ≠ 0 := by omega
    have h3 : 0 < k := h
    simp [h2, h3]
def timesBelow (t : Int) (l : List Dep) : Bool := allN l.length fun i => decide ((elt l i).stamp.time < t)
def verOk (v : Ver) : Bool := keyB v.key && stampOk v.stamp && inB v.val 0 9999 && clientB v.client && inB v.call 1 99 && depsOk v.deps && timesBelow v.stamp.time v.deps
def Ver.dep (v : Ver) : Dep := ⟨v.key, v.stamp⟩
def verLess (a b : Ver) : Bool := depLess a.dep b.dep
def chainOk (l : List Ver) : Bool := decide (l.length ≤ 80) && allN l.length (linkB verOk verLess l)
def debtOk (d : Dep) : Bool := keyB d.key && stampOk d.stamp
def debtsOk (l : List Dep) : Bool := decide (l.length ≤ 80) && allN l.length (linkB debtOk depLess l)
def addressB (n : Int) : Bool := siteB n || inB n 10 11
def wordOk (w : Word) : Bool :=
  inB w.kind 1 10 && addressB w.frm && addressB w.to && inB w.call 0 99 && keyB w.key && stampFits w.stamp && inB w.val 0 9999 && depsOk w.deps && inB w.slot 0 2 && inB w.epoch 0 9999 &&
    chainOk w.vers && chainOk w.waits && debtsOk w.owes
def verSlot (key : Int) : Int := if keyB key then key * 3 / 6 else -1
end Go.Proofs.YtlppgilifnkapaaGreat
