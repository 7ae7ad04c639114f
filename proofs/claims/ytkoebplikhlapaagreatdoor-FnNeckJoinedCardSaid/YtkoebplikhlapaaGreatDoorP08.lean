/- Part 8: rules of the proofs, contracts of functions, plain facts. -/
import Derived.Lib.ItoaNum
import Derived.Test.YtkoebplikhlapaaGreatDoorP07
set_option linter.unusedVariables false
set_option linter.unusedSimpArgs false
namespace Go.Proofs.YtkoebplikhlapaaGreatDoor
open Go
def dec (n : Int) : List UInt8 := Lib.itoa n
def written (n : Int) : Bool := inB n 0 99999
def Ev.ints (e : Ev) : List Int := [e.kind, e.at_, e.client, e.word, e.keep, e.slot, e.call, e.a, e.b, e.c, e.val]
theorem Ev.cells_ints (e : Ev) : e.cells = e.ints.map AV.int := rfl
def Ev.Fit (e : Ev) : Prop := ∀ x ∈ e.ints, i64r x
theorem Ev.ints_inj {e f : Ev} (h : e.ints = f.ints) : e = f := by
  cases e; cases f; simp [Ev.ints] at h; simp [h]
def splitB (c : UInt8) : List UInt8 → List (List UInt8)
  | [] => [[]]
  | x :: r => if x = c then [] :: splitB c r else match splitB c r with
    | [] => [[x]]
    | y :: t => (x :: y) :: t
theorem splitB_ne (c : UInt8) : ∀ s, splitB c s ≠ []
  | [] => by simp [splitB]
  | x :: r => by
    unfold splitB
    split
    · simp
    · split <;> simp
theorem splitB_cut {c : UInt8} : ∀ {p r : List UInt8}, (∀ x ∈ p, x ≠ c) → splitB c (p ++ c :: r) = p :: splitB c r
  | [], r, _ => by simp [splitB]
  | x :: p, r, h => by
    have ih := splitB_cut (p := p) (r := r) fun y hy => h y (by simp [hy])
    rw [List.cons_append, splitB, if_neg (h x (by simp)), ih]
theorem splitB_end {c : UInt8} : ∀ {p : List UInt8}, (∀ x ∈ p, x ≠ c) → splitB c p = [p]
  | [], _ => by simp [splitB]
  | x :: p, h => by
    have ih := splitB_end (p := p) fun y hy => h y (by simp [hy])
    rw [splitB, if_neg (h x (by simp)), ih]
def digitB (x : UInt8) : Bool := decide (48 ≤ x.toNat) && decide (x.toNat ≤ 57)
def numB (s : List UInt8) : Int := s.foldl (fun n x => n * 10 + ((x.toNat : Int) - 48)) 0
def parseB (s : List UInt8) : Int :=
  if s.length < 1 ∨ 5 < s.length then -1 else if s.all digitB then (if dec (numB s) = s then numB s else -1) else -1
theorem decDigits_digit (u : Nat) : ∀ x ∈ Lib.decDigits u, digitB x = true := by
  induction u using Nat.strongRecOn with
  | _ u ih =>
    intro x hx
    rw [Lib.decDigits] at hx
    split at hx
    · rename_i h
      simp at hx; subst hx
      simp [digitB, UInt8.toNat_ofNat]; omega
    · rename_i h
      rcases List.mem_append.1 hx with hx | hx
      · exact ih (u / 10) (by omega) x hx
      · simp at hx; subst hx
        have : u % 10 < 10 := Nat.mod_lt _ (by omega)
        simp [digitB, UInt8.toNat_ofNat]; omega
theorem decDigits_num (u : Nat) : numB (Lib.decDigits u) = u := by
  induction u using Nat.strongRecOn with
  | _ u ih =>
    rw [Lib.decDigits]
    split
    · rename_i h
      simp [numB, UInt8.toNat_ofNat]; omega
    · rename_i h
      have e := ih (u / 10) (by omega)
      unfold numB at e ⊢
      rw [List.foldl_append, e]
      have : u % 10 < 10 := Nat.mod_lt _ (by omega)
      simp [UInt8.toNat_ofNat]; omega
theorem decDigits_pos (u : Nat) : 1 ≤ (Lib.decDigits u).length := by
  rw [Lib.decDigits]; split <;> simp
theorem decDigits_le : ∀ (k u : Nat), u < 10 ^ (k + 1) → (Lib.decDigits u).length ≤ k + 1
  | 0, u, h => by rw [Lib.decDigits, dif_pos (by simpa using h)]; simp
  | k + 1, u, h => by
    rw [Lib.decDigits]
    split
    · simp
    · have := decDigits_le k (u / 10) (by rw [Nat.pow_succ] at h; omega)
      simp; omega
theorem decDigits_ge : ∀ (k u : Nat), 10 ^ k ≤ u → k + 1 ≤ (Lib.decDigits u).length
  | 0, u, _ => decDigits_pos u
  | k + 1, u, h => by
    have h1 : 1 ≤ 10 ^ k := Nat.one_le_pow _ _ (by omega)
    rw [Nat.pow_succ] at h
    rw [Lib.decDigits, dif_neg (by omega)]
    have := decDigits_ge k (u / 10) (by omega)
    simp; omega
theorem dec_byte (n : Int) : ∀ x ∈ dec n, x ≠ 32 ∧ x ≠ 10 := by
  have key : ∀ u x, x ∈ Lib.decDigits u → x ≠ 32 ∧ x ≠ 10 := fun u x hx => by
    have := decDigits_digit u x hx
    simp [digitB] at this
    exact ⟨fun e => by subst e; simp at this, fun e => by subst e; simp at this⟩
  intro x hx
  unfold dec Lib.itoa at hx
  split at hx
  · rcases List.mem_cons.1 hx with rfl | hx
    · exact ⟨by decide, by decide⟩
    · exact key _ x hx
  · exact key _ x hx
theorem parse_dec (n : Int) : parseB (dec n) = if written n then n else -1 := by
  unfold parseB
  have e : written n = (decide (0 ≤ n) && decide (n ≤ 99999)) := rfl
  rw [e]
  by_cases h0 : n < 0
  · have h1 : dec n = 45 :: Lib.decDigits n.natAbs := by unfold dec Lib.itoa; rw [if_pos h0]
    rw [h1]
    rw [show (decide (0 ≤ n)) = false from by simp; omega]
    simp [digitB]
  · have h1 : dec n = Lib.decDigits n.toNat := by unfold dec Lib.itoa; rw [if_neg h0]
    rw [h1, decDigits_num]
    rw [show (n.toNat : Int) = n from by omega, h1]
    have hl := decDigits_pos n.toNat
    have ha : (Lib.decDigits n.toNat).all digitB = true := by simpa using decDigits_digit n.toNat
    by_cases h2 : n ≤ 99999
    · have h3 := decDigits_le 4 n.toNat (by omega)
      rw [if_neg (by omega), if_pos ha]
      simp [h2]; omega
    · have h3 := decDigits_ge 5 n.toNat (by omega)
      rw [if_pos (by omega)]
      simp [h2]
def names : List (List UInt8) := [[], [], [115, 101, 110, 100, 115], [103, 105, 118, 101, 115], [98, 114, 105, 110, 103, 115], [108, 111, 115, 101, 115], [102, 97, 108, 108, 115], [114, 105, 115, 101, 115], [116, 101, 110, 100, 115], [109, 111, 118, 101, 115], [112, 117, 116, 115], [114, 101, 97, 100, 115], [100, 111, 117, 98, 108, 101, 115]]
def fieldsB (ns : List Int) : List UInt8 := (ns.map fun n => 32 :: dec n).flatten
def lineOf (k : Nat) (ns : List Int) : List UInt8 := names.getD k [] ++ fieldsB ns
theorem names_byte : ∀ k, ∀ x ∈ names.getD k [], x ≠ 32 ∧ x ≠ 10 := by
  intro k
  by_cases h : k < 13
  · have : ∀ k : Fin 13, ∀ x ∈ names.getD k.val [], x ≠ 32 ∧ x ≠ 10 := by decide
    exact this ⟨k, h⟩
  · have : names.getD k [] = [] := by
      rw [List.getD_eq_getElem?_getD, List.getElem?_eq_none (by simp [names]; omega)]; rfl
    rw [this]; simp
theorem split_fields : ∀ (ns : List Int) (p : List UInt8), (∀ x ∈ p, x ≠ 32) → splitB 32 (p ++ fieldsB ns) = p :: ns.map dec
  | [], p, h => by simp [fieldsB]; exact splitB_end h
  | n :: ns, p, h => by
    have e : p ++ fieldsB (n :: ns) = p ++ 32 :: (dec n ++ fieldsB ns) := by simp [fieldsB]
    rw [e, splitB_cut h, split_fields ns (dec n) fun x hx => (dec_byte n x hx).1]
    simp
theorem split_line (k : Nat) (ns : List Int) : splitB 32 (lineOf k ns) = names.getD k [] :: ns.map dec :=
  split_fields ns _ fun x hx => (names_byte k x hx).1
def placeB (w : List UInt8) : Option Nat := (List.range 13).find? fun k => decide (2 ≤ k) && decide (names.getD k [] = w)
def readEv (k : Nat) (n : List Int) : Option Ev :=
  if k = 10 ∧ n.length = 3 then some { (default : Ev) with kind := 1, client := n.getD 0 0, call := 1, a := n.getD 1 0, val := n.getD 2 0 }
  else if k = 11 ∧ n.length = 4 then some { (default : Ev) with kind := 1, client := n.getD 0 0, call := 2, a := n.getD 1 0, b := n.getD 2 0, c := n.getD 3 0 }
  else if k = 9 ∧ n.length = 2 then some { (default : Ev) with kind := 9, at_ := n.getD 0 0, slot := n.getD 1 0 }
  else if (8 < k ∧ k < 12) ∨ n.length ≠ 1 then none
  else if k = 12 then some { (default : Ev) with kind := 4, word := n.getD 0 0, keep := 1 }
  else if k = 4 ∨ k = 5 then some { (default : Ev) with kind := k, word := n.getD 0 0 }
  else if k = 2 ∨ k = 3 then some { (default : Ev) with kind := k, client := n.getD 0 0 }
  else some { (default : Ev) with kind := k, at_ := n.getD 0 0 }
def readB (s : List UInt8) : Option Ev :=
  let ws := splitB 32 s
  if (ws.tail.map parseB).all (fun n => decide (0 ≤ n)) then (placeB (ws.headD [])).bind fun k => readEv k (ws.tail.map parseB) else none
def evK (e : Ev) : Option (Nat × List Int) :=
  if e.kind = 1 then (if e.call = 1 then some (10, [e.client, e.a, e.val]) else some (11, [e.client, e.a, e.b, e.c]))
  else if e.kind = 2 then some (2, [e.client])
  else if e.kind = 3 then some (3, [e.client])
  else if e.kind = 4 then (if e.keep = 1 then some (12, [e.word]) else some (4, [e.word]))
  else if e.kind = 5 then some (5, [e.word])
  else if e.kind = 6 then some (6, [e.at_])
  else if e.kind = 7 then some (7, [e.at_])
  else if e.kind = 8 then some (8, [e.at_])
  else if e.kind = 9 then some (9, [e.at_, e.slot]) else none
def lineB (e : Ev) : List UInt8 := match evK e with
  | some (k, ns) => lineOf k ns
  | none => []
def evLine (e : Ev) : List UInt8 := if readB (lineB e) = some e then lineB e ++ [10] else []
theorem place_names : ∀ k, 2 ≤ k → k < 13 → placeB (names.getD k []) = some k := by
  have : ∀ k : Fin 13, 2 ≤ k.val → placeB (names.getD k.val []) = some k.val := by decide
  exact fun k h1 h2 => this ⟨k, h2⟩ h1
theorem read_line {k : Nat} {ns : List Int} (h1 : 2 ≤ k) (h2 : k < 13) : readB (lineOf k ns) = if ns.all written then readEv k ns else none := by
  have e : (ns.map dec).map parseB = ns.map fun n => if written n then n else -1 := by
    rw [List.map_map]; apply List.map_congr_left; intro n _; exact parse_dec n
  unfold readB
  rw [split_line]
  simp only [List.tail_cons, List.headD_cons, place_names k h1 h2, e, Option.bind_some]
  by_cases h : ns.all written = true
  · have e2 : (ns.map fun n => if written n then n else -1) = ns := by
      conv => rhs; rw [← List.map_id ns]
      apply List.map_congr_left
      intro n hn
      have := List.all_eq_true.1 h n hn
      simp [this]
    rw [e2, if_pos h, if_pos]
    rw [List.all_eq_true]
    intro n hn
    have := List.all_eq_true.1 h n hn
    simp [written, inB] at this
    simp [this.1]
  · rw [if_neg h, if_neg]
    intro hh
    apply h
    rw [List.all_eq_true] at hh ⊢
    intro n hn
    have := hh _ (List.mem_map_of_mem (f := fun n => if written n then n else -1) hn)
    cases hw : written n
    · rw [hw] at this; simp at this
    · rfl
theorem read_nil : readB [] = none := by decide
structure Form where
  word : List UInt8
  ev : Ev
  offs : List Nat
deriving DecidableEq, Inhabited
def formsL : List Form := [
  ⟨[112, 117, 116, 115], { (default : Ev) with kind := 1, call := 1 }, [2, 7, 10]⟩,
  ⟨[114, 101, 97, 100, 115], { (default : Ev) with kind := 1, call := 2 }, [2, 7, 8, 9]⟩,
  ⟨[115, 101, 110, 100, 115], { (default : Ev) with kind := 2 }, [2]⟩,
  ⟨[103, 105, 118, 101, 115], { (default : Ev) with kind := 3 }, [2]⟩,
  ⟨[98, 114, 105, 110, 103, 115], { (default : Ev) with kind := 4 }, [3]⟩,
  ⟨[100, 111, 117, 98, 108, 101, 115], { (default : Ev) with kind := 4, keep := 1 }, [3]⟩,
  ⟨[108, 111, 115, 101, 115], { (default : Ev) with kind := 5 }, [3]⟩,
  ⟨[102, 97, 108, 108, 115], { (default : Ev) with kind := 6 }, [1]⟩,
  ⟨[114, 105, 115, 101, 115], { (default : Ev) with kind := 7 }, [1]⟩,
  ⟨[116, 101, 110, 100, 115], { (default : Ev) with kind := 8 }, [1]⟩,
  ⟨[109, 111, 118, 101, 115], { (default : Ev) with kind := 9 }, [1, 5]⟩]
def formK : List Nat := [10, 11, 2, 3, 4, 12, 5, 6, 7, 8, 9]
def Form.vals (f : Form) (e : Ev) : List Int := f.offs.map fun o => e.ints.getD o 0
def Form.made (f : Form) (e : Ev) : List Int := f.offs.foldl (fun m o => m.set o (e.ints.getD o 0)) f.ev.ints
def Form.write (f : Form) (e : Ev) : List UInt8 := if (f.vals e).all written && decide (f.made e = e.ints) then f.word ++ fieldsB (f.vals e) ++ [10] else []
def writeEv (e : Ev) : List UInt8 := ((formsL.map fun f => f.write e).find? fun l => !l.isEmpty).getD []
theorem find_first {α : Type} {x : List α} : ∀ {l : List (List α)}, (∀ y ∈ l, y = [] ∨ y = x) → (x ≠ [] → x ∈ l) → (l.find? fun y => !y.isEmpty).getD [] = x
  | [], _, h => by
    cases x with
    | nil => rfl
    | cons a x => exact absurd (h (by simp)) (by simp)
  | y :: l, h1, h2 => by
    rw [List.find?_cons]
    cases y with
    | nil =>
      simp only [List.isEmpty_nil, Bool.not_true]
      exact find_first (fun z hz => h1 z (by simp [hz])) fun hx => by
        rcases List.mem_cons.1 (h2 hx) with e | e
        · exact absurd e hx
        · exact e
    | cons a y =>
      simp only [List.isEmpty_cons, Bool.not_false, Option.getD_some]
      rcases h1 (a :: y) (by simp) with e | e
      · cases e
      · exact e
theorem evLine_some {e : Ev} {k : Nat} {ns : List Int} (h : evK e = some (k, ns)) (h1 : 2 ≤ k) (h2 : k < 13) :
    evLine e = if ns.all written && decide (readEv k ns = some e) then names.getD k [] ++ fieldsB ns ++ [10] else [] := by
  unfold evLine lineB
  rw [h]
  simp only [read_line h1 h2]
  cases ns.all written
  · simp
  · simp [lineOf]
theorem form_write (e : Ev) : ∀ j, j < 11 → (formsL.getD j default).write e = [] ∨ (formsL.getD j default).write e = evLine e := by
  intro j hj
  have key : ∀ (f : Form) (k : Nat), 2 ≤ k → k < 13 → f.word = names.getD k [] → (f.made e = e.ints → evK e = some (k, f.vals e) ∧ readEv k (f.vals e) = some e) → f.write e = [] ∨ f.write e = evLine e := fun f k h1 h2 hw h => by
    by_cases hm : f.made e = e.ints
    · obtain ⟨h3, h4⟩ := h hm
      refine .inr ?_
      rw [evLine_some h3 h1 h2, Form.write, hw]
      simp [hm, h4]
    · refine .inl ?_
      simp [Form.write, hm]
  obtain ⟨e1, e2, e3, e4, e5, e6, e7, e8, e9, e10, e11⟩ := e
  match j, hj with
  | 0, _ => exact key _ 10 (by decide) (by decide) rfl fun h => by simp [Form.made, Form.vals, formsL, Ev.ints, default, instInhabitedEv.default] at h; simp [evK, readEv, Form.vals, formsL, Ev.ints, ← h, default, instInhabitedEv.default]
  | 1, _ => exact key _ 11 (by decide) (by decide) rfl fun h => by simp [Form.made, Form.vals, formsL, Ev.ints, default, instInhabitedEv.default] at h; simp [evK, readEv, Form.vals, formsL, Ev.ints, ← h, default, instInhabitedEv.default]
  | 2, _ => exact key _ 2 (by decide) (by decide) rfl fun h => by simp [Form.made, Form.vals, formsL, Ev.ints, default, instInhabitedEv.default] at h; simp [evK, readEv, Form.vals, formsL, Ev.ints, ← h, default, instInhabitedEv.default]
  | 3, _ => exact key _ 3 (by decide) (by decide) rfl fun h => by simp [Form.made, Form.vals, formsL, Ev.ints, default, instInhabitedEv.default] at h; simp [evK, readEv, Form.vals, formsL, Ev.ints, ← h, default, instInhabitedEv.default]
  | 4, _ => exact key _ 4 (by decide) (by decide) rfl fun h => by simp [Form.made, Form.vals, formsL, Ev.ints, default, instInhabitedEv.default] at h; simp [evK, readEv, Form.vals, formsL, Ev.ints, ← h, default, instInhabitedEv.default]
  | 5, _ => exact key _ 12 (by decide) (by decide) rfl fun h => by simp [Form.made, Form.vals, formsL, Ev.ints, default, instInhabitedEv.default] at h; simp [evK, readEv, Form.vals, formsL, Ev.ints, ← h, default, instInhabitedEv.default]
  | 6, _ => exact key _ 5 (by decide) (by decide) rfl fun h => by simp [Form.made, Form.vals, formsL, Ev.ints, default, instInhabitedEv.default] at h; simp [evK, readEv, Form.vals, formsL, Ev.ints, ← h, default, instInhabitedEv.default]
  | 7, _ => exact key _ 6 (by decide) (by decide) rfl fun h => by simp [Form.made, Form.vals, formsL, Ev.ints, default, instInhabitedEv.default] at h; simp [evK, readEv, Form.vals, formsL, Ev.ints, ← h, default, instInhabitedEv.default]
  | 8, _ => exact key _ 7 (by decide) (by decide) rfl fun h => by simp [Form.made, Form.vals, formsL, Ev.ints, default, instInhabitedEv.default] at h; simp [evK, readEv, Form.vals, formsL, Ev.ints, ← h, default, instInhabitedEv.default]
  | 9, _ => exact key _ 8 (by decide) (by decide) rfl fun h => by simp [Form.made, Form.vals, formsL, Ev.ints, default, instInhabitedEv.default] at h; simp [evK, readEv, Form.vals, formsL, Ev.ints, ← h, default, instInhabitedEv.default]
  | 10, _ => exact key _ 9 (by decide) (by decide) rfl fun h => by simp [Form.made, Form.vals, formsL, Ev.ints, default, instInhabitedEv.default] at h; simp [evK, readEv, Form.vals, formsL, Ev.ints, ← h, default, instInhabitedEv.default]
theorem some_form (e : Ev) (h : evLine e ≠ []) : ∃ j, j < 11 ∧ (formsL.getD j default).write e = evLine e := by
  have key : ∀ (j k : Nat), j < 11 → 2 ≤ k → k < 13 → (formsL.getD j default).word = names.getD k [] → evK e = some (k, (formsL.getD j default).vals e) → (readEv k ((formsL.getD j default).vals e) = some e → (formsL.getD j default).made e = e.ints) → ∃ j, j < 11 ∧ (formsL.getD j default).write e = evLine e := fun j k hj h1 h2 hw h3 h4 => by
    refine ⟨j, hj, ?_⟩
    generalize formsL.getD j default = f at *
    have h5 := h
    rw [evLine_some h3 h1 h2] at h5 ⊢
    by_cases h6 : readEv k (f.vals e) = some e
    · have h7 := h4 h6
      unfold Form.write
      rw [hw]
      simp only [h6, h7, decide_true, Bool.and_true]
    · exact absurd (by rw [if_neg]; simp [h6]) h5
  obtain ⟨e1, e2, e3, e4, e5, e6, e7, e8, e9, e10, e11⟩ := e
  have hk : ∀ e : Ev, evLine e ≠ [] → evK e ≠ none := fun e h hn => by
    apply h; unfold evLine lineB; rw [hn]; simp [read_nil]
  have hk := hk _ h
  unfold evK at hk
  simp only at hk
  by_cases h1 : e1 = 1
  · by_cases h2 : e7 = 1
    · exact key 0 10 (by decide) (by decide) (by decide) rfl (by simp [evK, h1, h2]; rfl) fun h => by simp [readEv, Form.vals, formsL, Ev.ints, default, instInhabitedEv.default] at h; simp [Form.made, formsL, Ev.ints, h, default, instInhabitedEv.default]; omega
    · exact key 1 11 (by decide) (by decide) (by decide) rfl (by simp [evK, h1, h2]; rfl) fun h => by simp [readEv, Form.vals, formsL, Ev.ints, default, instInhabitedEv.default] at h; simp [Form.made, formsL, Ev.ints, h, default, instInhabitedEv.default]; omega
  by_cases h2 : e1 = 2
  · exact key 2 2 (by decide) (by decide) (by decide) rfl (by simp [evK, h2]; rfl) fun h => by simp [readEv, Form.vals, formsL, Ev.ints, default, instInhabitedEv.default] at h; simp [Form.made, formsL, Ev.ints, h, default, instInhabitedEv.default]; omega
  by_cases h3 : e1 = 3
  · exact key 3 3 (by decide) (by decide) (by decide) rfl (by simp [evK, h3]; rfl) fun h => by simp [readEv, Form.vals, formsL, Ev.ints, default, instInhabitedEv.default] at h; simp [Form.made, formsL, Ev.ints, h, default, instInhabitedEv.default]; omega
  by_cases h4 : e1 = 4
  · by_cases h5 : e5 = 1
    · exact key 5 12 (by decide) (by decide) (by decide) rfl (by simp [evK, h4, h5]; rfl) fun h => by simp [readEv, Form.vals, formsL, Ev.ints, default, instInhabitedEv.default] at h; simp [Form.made, formsL, Ev.ints, h, default, instInhabitedEv.default]; omega
    · exact key 4 4 (by decide) (by decide) (by decide) rfl (by simp [evK, h4, h5]; rfl) fun h => by simp [readEv, Form.vals, formsL, Ev.ints, default, instInhabitedEv.default] at h; simp [Form.made, formsL, Ev.ints, h, default, instInhabitedEv.default]; omega
  by_cases h5 : e1 = 5
  · exact key 6 5 (by decide) (by decide) (by decide) rfl (by simp [evK, h5]; rfl) fun h => by simp [readEv, Form.vals, formsL, Ev.ints, default, instInhabitedEv.default] at h; simp [Form.made, formsL, Ev.ints, h, default, instInhabitedEv.default]; omega
  by_cases h6 : e1 = 6
  · exact key 7 6 (by decide) (by decide) (by decide) rfl (by simp [evK, h6]; rfl) fun h => by simp [readEv, Form.vals, formsL, Ev.ints, default, instInhabitedEv.default] at h; simp [Form.made, formsL, Ev.ints, h, default, instInhabitedEv.default]; omega
  by_cases h7 : e1 = 7
  · exact key 8 7 (by decide) (by decide) (by decide) rfl (by simp [evK, h7]; rfl) fun h => by simp [readEv, Form.vals, formsL, Ev.ints, default, instInhabitedEv.default] at h; simp [Form.made, formsL, Ev.ints, h, default, instInhabitedEv.default]; omega
  by_cases h8 : e1 = 8
  · exact key 9 8 (by decide) (by decide) (by decide) rfl (by simp [evK, h8]; rfl) fun h => by simp [readEv, Form.vals, formsL, Ev.ints, default, instInhabitedEv.default] at h; simp [Form.made, formsL, Ev.ints, h, default, instInhabitedEv.default]; omega
  by_cases h9 : e1 = 9
  · exact key 10 9 (by decide) (by decide) (by decide) rfl (by simp [evK, h9]; rfl) fun h => by simp [readEv, Form.vals, formsL, Ev.ints, default, instInhabitedEv.default] at h; simp [Form.made, formsL, Ev.ints, h, default, instInhabitedEv.default]; omega
  simp [h1, h2, h3, h4, h5, h6, h7, h8, h9] at hk
theorem writeEv_eq (e : Ev) : writeEv e = evLine e := by
  unfold writeEv
  refine find_first (fun y hy => ?_) (fun hx => ?_)
  · obtain ⟨f, hf, rfl⟩ := List.mem_map.1 hy
    obtain ⟨j, hj, he⟩ := List.getElem_of_mem hf
    have := form_write e j (by simpa [formsL] using hj)
    rwa [show formsL.getD j default = f from by rw [List.getD_eq_getElem?_getD, List.getElem?_eq_getElem hj, he]; rfl] at this
  · obtain ⟨j, hj, he⟩ := some_form e hx
    rw [← he]
    refine List.mem_map_of_mem ?_
    rw [List.getD_eq_getElem?_getD, List.getElem?_eq_getElem (by simpa [formsL] using hj)]
    exact List.getElem_mem _
end Go.Proofs.YtkoebplikhlapaaGreatDoor
