/- Plain laws of reading: numbers, cuts, forms. -/
import Derived.Lib.AtoiAll
import Derived.Lib.SplitLaws
import Derived.Lib.IndexBytes
import Derived.Lib.IndexLaws
import Derived.Test.YtblcocjbnjfhkaaDoorWalk8
set_option linter.unusedVariables false
set_option linter.unusedSimpArgs false
set_option maxRecDepth 100000
namespace Go.Proofs.YtblcocjbnjfhkaaDoor
open Go Go.RowKit


/-- What strconv.Atoi hands back, and whether beside an error. -/
def atoiV (s : List UInt8) : Int × Bool := match Lib.atoiAll s with
  | .ok v => (v, false)
  | .range => (Lib.atoiSat s, true)
  | _ => (0, true)
theorem uint_digits : ∀ (l : List UInt8) (acc : Nat), l.all digitB = true → (acc + 1) * 10 ^ l.length ≤ 10 ^ 15 → Lib.parseUint10 acc l = .ok (l.foldl (fun n x => n * 10 + (x.toNat - 48)) acc)
  | [], acc, _, _ => rfl
  | x :: l, acc, h, hb => by
    simp only [List.all_cons, Bool.and_eq_true, digitB, decide_eq_true_eq] at h
    have h1 : 1 ≤ 10 ^ l.length := Nat.one_le_pow _ _ (by omega)
    have h2 : acc + 1 ≤ 10 ^ 15 := Nat.le_trans (Nat.le_mul_of_pos_right _ (Nat.pow_pos (by omega))) hb
    have h3 : (acc * 10 + (x.toNat - 48) + 1) * 10 ^ l.length ≤ 10 ^ 15 := by
      refine Nat.le_trans ?_ hb
      rw [List.length_cons, Nat.pow_succ, Nat.mul_comm (10 ^ l.length) 10, ← Nat.mul_assoc]
      exact Nat.mul_le_mul_right _ (by omega)
    rw [Lib.parseUint10, if_pos h.1, if_neg (by omega), if_neg (by omega)]
    exact uint_digits l _ h.2 h3
theorem num_nat : ∀ (l : List UInt8) (acc : Nat), l.all digitB = true → l.foldl (fun (n : Int) x => n * 10 + ((x.toNat : Int) - 48)) (acc : Int) = ((l.foldl (fun n x => n * 10 + (x.toNat - 48)) acc : Nat) : Int)
  | [], _, _ => rfl
  | x :: l, acc, h => by
    simp only [List.all_cons, Bool.and_eq_true, digitB, decide_eq_true_eq] at h
    have ih := num_nat l (acc * 10 + (x.toNat - 48)) h.2
    rw [List.foldl_cons, List.foldl_cons, ← ih]
    congr 1; omega
/-- A number that is read as it is written. -/
theorem atoi_good {s : List UInt8} (h : 0 ≤ parseB s) : atoiV s = (parseB s, false) ∧ written (parseB s) = true ∧ dec (parseB s) = s := by
  have hp : parseB s = numB s ∧ (1 ≤ s.length ∧ s.length ≤ 5) ∧ s.all digitB = true ∧ dec (numB s) = s := by
    unfold parseB at h ⊢
    split at h
    · omega
    · split at h
      · split at h
        · rename_i h1 h2 h3
          rw [if_neg h1, if_pos h2, if_pos h3]
          exact ⟨rfl, ⟨by omega, by omega⟩, h2, h3⟩
        · omega
      · omega
  obtain ⟨e, ⟨l1, l5⟩, hd, hdec⟩ := hp
  have hw : written (parseB s) = true := by
    have := parse_dec (parseB s)
    rw [show dec (parseB s) = s from by rw [e]; exact hdec] at this
    cases hw : written (parseB s) with
    | true => rfl
    | false => rw [hw] at this; simp at this; omega
  refine ⟨?_, hw, by rw [e]; exact hdec⟩
  have h5 : 10 ^ s.length ≤ 10 ^ 5 := Nat.pow_le_pow_right (by omega) l5
  have hu := uint_digits s 0 hd (by omega)
  have hn : numB s = ((s.foldl (fun n x => n * 10 + (x.toNat - 48)) 0 : Nat) : Int) := num_nat s 0 hd
  cases s with
  | nil => simp at l1
  | cons c r =>
    have hc := List.all_eq_true.1 hd c (by simp)
    simp only [digitB, Bool.and_eq_true, decide_eq_true_eq] at hc
    have h0 : ¬ (c.toNat = 43 ∨ c.toNat = 45) := by omega
    have h45 : ¬ c.toNat = 45 := by omega
    have hlt : (c :: r).foldl (fun n x => n * 10 + (x.toNat - 48)) 0 < 9223372036854775808 := by
      have hw2 : written (numB (c :: r)) = true := by rw [← e]; exact hw
      simp only [written, inB, Bool.and_eq_true, decide_eq_true_eq] at hw2
      omega
    have hm : Lib.parseMag (if c.toNat = 43 ∨ c.toNat = 45 then r else c :: r) = .ok ((c :: r).foldl (fun n x => n * 10 + (x.toNat - 48)) 0) := by
      rw [if_neg h0]; unfold Lib.parseMag; rw [if_neg (by simp)]; exact hu
    rw [e, hn]
    generalize (c :: r).foldl (fun n x => n * 10 + (x.toNat - 48)) 0 = u at hm hlt
    unfold atoiV Lib.atoiAll
    simp only [hm]
    simp only [h45, not_false_eq_true, true_and, false_and, if_false]
    rw [if_neg (by omega)]
theorem atoi_bad {s : List UInt8} (h : (atoiV s).2 = false) (hw : written (atoiV s).1 = true) (hd : dec (atoiV s).1 = s) : parseB s = (atoiV s).1 ∧ 0 ≤ parseB s := by
  have := parse_dec (atoiV s).1
  rw [hd, if_pos hw] at this
  rw [this]
  simp only [written, inB, Bool.and_eq_true, decide_eq_true_eq] at hw
  exact ⟨rfl, hw.1⟩
theorem atoiV_range (s : List UInt8) : i64r (atoiV s).1 := by
  unfold atoiV
  split
  · rename_i v h
    unfold Lib.atoiAll at h
    split at h
    · cases h
    · simp only at h
      split at h
      · cases h
      · cases h
      · split at h
        · cases h
        · split at h
          · cases h
          · injection h with h
            rename_i h1 h2
            subst h
            by_cases hn : (‹UInt8› : UInt8).toNat = 45
            · simp only [hn, not_true_eq_false, false_and, true_and, if_true] at h1 h2 ⊢
              exact ⟨by omega, by omega⟩
            · simp only [hn, not_false_eq_true, true_and, false_and, if_false] at h1 h2 ⊢
              exact ⟨by omega, by omega⟩
  · unfold Lib.atoiSat; split <;> exact ⟨by decide, by decide⟩
  · exact ⟨by decide, by decide⟩

/-! ### The library's cut -/
theorem lib_split (c : UInt8) : ∀ (k : Nat) (s : ByteArray), Lib.countB s ⟨#[c]⟩ = k → (Lib.splitB ⟨#[c]⟩ 0 k s).map (fun b => b.data.toList) = splitB c s.data.toList
  | k, s, h => by
    have h1 : 1 ≤ (⟨#[c]⟩ : ByteArray).size := Nat.le_refl _
    have hone : ∀ s : ByteArray, Lib.indexB s ⟨#[c]⟩ = Lib.indexByte s.data.toList c := fun s => Lib.index_one s.data.toList c
    rcases Lib.indexB_cases s ⟨#[c]⟩ with hi | ⟨i, hi, hle⟩
    · rw [Lib.splitB_miss _ _ _ _ hi]
      rw [hone] at hi
      have hno := Lib.indexByte_none hi
      rw [splitB_end]
      · rfl
      · intro x hx e
        obtain ⟨j, hj, rfl⟩ := List.getElem_of_mem hx
        exact hno j (by rw [List.getElem?_eq_getElem hj, e])
    · have hc := Lib.countB_hit s ⟨#[c]⟩ i h1 hi
      cases k with
      | zero => omega
      | succ k =>
        rw [Lib.splitB_hit _ _ _ _ _ hi, List.map_cons]
        have ih := lib_split c k (s.extract (i + (⟨#[c]⟩ : ByteArray).size) s.size) (by omega)
        rw [ih]
        rw [hone] at hi
        obtain ⟨ha, hb⟩ := Lib.indexByte_some hi
        have hil : i < s.data.toList.length := (List.getElem?_eq_some_iff.1 ha).1
        have hsz : (⟨#[c]⟩ : ByteArray).size = 1 := rfl
        have e1 : s.data.toList = s.data.toList.take i ++ c :: s.data.toList.drop (i + 1) := by
          conv => lhs; rw [← List.take_append_drop i s.data.toList, List.drop_eq_getElem_cons hil]
          rw [List.getElem?_eq_getElem hil] at ha
          cases ha; rfl
        conv => rhs; rw [e1]
        rw [splitB_cut]
        · congr 1
          · rw [Lib.extract_data]; simp
          · rw [Lib.extract_data, hsz, Lib.size_eq, List.take_of_length_le (by simp)]
        · intro x hx e
          obtain ⟨j, hj, rfl⟩ := List.getElem_of_mem hx
          simp only [List.length_take] at hj
          refine hb j (by omega) ?_
          rw [List.getElem?_eq_getElem (by omega)]
          simpa using e

/-! ### The forms, read -/
def formKA (j : Nat) : Nat := formK.getD j 0
theorem form_name : ∀ j, j < 11 → (formAt j).word = names.getD (formKA j) [] ∧ 2 ≤ formKA j ∧ formKA j < 13 := by
  have : ∀ j : Fin 11, (formAt j.val).word = names.getD (formKA j.val) [] ∧ 2 ≤ formKA j.val ∧ formKA j.val < 13 := by decide
  exact fun j hj => this ⟨j, hj⟩
theorem name_form : ∀ k, 2 ≤ k → k < 13 → ∃ j, j < 11 ∧ (formAt j).word = names.getD k [] := by
  have : ∀ k : Fin 13, 2 ≤ k.val → ∃ j : Fin 11, (formAt j.val).word = names.getD k.val [] := by decide
  intro k h1 h2
  obtain ⟨j, hj⟩ := this ⟨k, h2⟩ h1
  exact ⟨j.val, j.isLt, hj⟩
theorem place_form {j : Nat} (hj : j < 11) {w : List UInt8} (h : (formAt j).word = w) : placeB w = some (formKA j) := by
  obtain ⟨h1, h2, h3⟩ := form_name j hj
  rw [← h, h1]; exact place_names _ h2 h3
theorem placeB_some {w : List UInt8} {k : Nat} (h : placeB w = some k) : 2 ≤ k ∧ k < 13 ∧ names.getD k [] = w := by
  unfold placeB at h
  have h1 := List.find?_some h
  have h2 := List.mem_of_find?_eq_some h
  simp only [Bool.and_eq_true, decide_eq_true_eq] at h1
  exact ⟨h1.1, by simpa using h2, h1.2⟩
theorem readB_noform {s : List UInt8} (h : ∀ i, i < 11 → (formAt i).word ≠ elt (splitB 32 s) 0) : readB s = none := by
  unfold readB
  simp only
  split
  · rw [headD_elt]
    cases hp : placeB (elt (splitB 32 s) 0) with
    | none => rfl
    | some k =>
      obtain ⟨h1, h2, h3⟩ := placeB_some hp
      obtain ⟨j, hj, e⟩ := name_form k h1 h2
      exact absurd (e.trans h3) (h j hj)
  · rfl
/-- The fields that are set. -/
def setTo (j : Nat) (ns : List Int) : List Int := (((formAt j).offs.zip ns)).foldl (fun m p => m.set p.1 p.2) (formAt j).ev.ints
def evOf (l : List Int) : Ev := ⟨l.getD 0 0, l.getD 1 0, l.getD 2 0, l.getD 3 0, l.getD 4 0, l.getD 5 0, l.getD 6 0, l.getD 7 0, l.getD 8 0, l.getD 9 0, l.getD 10 0⟩
theorem readEv_form {j : Nat} (hj : j < 11) {ns : List Int} (hl : ns.length = (formAt j).offs.length) : readEv (formKA j) ns = some (evOf (setTo j ns)) := by
  match j, hj with
  | 0, _ => match ns, hl with | [_, _, _], _ => rfl
  | 1, _ => match ns, hl with | [_, _, _, _], _ => rfl
  | 2, _ => match ns, hl with | [_], _ => rfl
  | 3, _ => match ns, hl with | [_], _ => rfl
  | 4, _ => match ns, hl with | [_], _ => rfl
  | 5, _ => match ns, hl with | [_], _ => rfl
  | 6, _ => match ns, hl with | [_], _ => rfl
  | 7, _ => match ns, hl with | [_], _ => rfl
  | 8, _ => match ns, hl with | [_], _ => rfl
  | 9, _ => match ns, hl with | [_], _ => rfl
  | 10, _ => match ns, hl with | [_, _], _ => rfl
theorem readEv_len {j : Nat} (hj : j < 11) {ns : List Int} (hl : ns.length ≠ (formAt j).offs.length) : readEv (formKA j) ns = none := by
  have key : ∀ k n : Nat, (k = 10 → n ≠ 3) → (k = 11 → n ≠ 4) → (k = 9 → n ≠ 2) → ((8 < k ∧ k < 12) ∨ n ≠ 1) → ∀ ns : List Int, ns.length = n → readEv k ns = none := by
    intro k n h1 h2 h3 h4 ns hn
    unfold readEv
    rw [if_neg (by omega), if_neg (by omega), if_neg (by omega), if_pos (by omega)]
  match j, hj with
  | 0, _ => exact key 10 ns.length (fun _ => hl) (by omega) (by omega) (by omega) ns rfl
  | 1, _ => exact key 11 ns.length (by omega) (fun _ => hl) (by omega) (by omega) ns rfl
  | 2, _ => exact key 2 ns.length (by omega) (by omega) (by omega) (.inr hl) ns rfl
  | 3, _ => exact key 3 ns.length (by omega) (by omega) (by omega) (.inr hl) ns rfl
  | 4, _ => exact key 4 ns.length (by omega) (by omega) (by omega) (.inr hl) ns rfl
  | 5, _ => exact key 12 ns.length (by omega) (by omega) (by omega) (.inr hl) ns rfl
  | 6, _ => exact key 5 ns.length (by omega) (by omega) (by omega) (.inr hl) ns rfl
  | 7, _ => exact key 6 ns.length (by omega) (by omega) (by omega) (.inr hl) ns rfl
  | 8, _ => exact key 7 ns.length (by omega) (by omega) (by omega) (.inr hl) ns rfl
  | 9, _ => exact key 8 ns.length (by omega) (by omega) (by omega) (.inr hl) ns rfl
  | 10, _ => exact key 9 ns.length (by omega) (by omega) (fun _ => hl) (by omega) ns rfl
theorem readB_len {s : List UInt8} {j : Nat} (hj : j < 11) (h : (formAt j).word = elt (splitB 32 s) 0) (hl : (splitB 32 s).length ≠ (formAt j).offs.length + 1) : readB s = none := by
  unfold readB
  simp only
  split
  · rw [headD_elt, place_form hj h]
    refine readEv_len hj ?_
    have := List.length_pos_iff.2 (splitB_ne 32 s)
    simp; omega
  · rfl
theorem readB_form {s : List UInt8} {j : Nat} (hj : j < 11) (h : (formAt j).word = elt (splitB 32 s) 0) (hl : (splitB 32 s).length = (formAt j).offs.length + 1) (hall : ∀ x ∈ (splitB 32 s).tail.map parseB, (0 : Int) ≤ x) :
    readB s = some (evOf (setTo j ((splitB 32 s).tail.map parseB))) := by
  rw [readB_good hall, place_form hj h]
  exact readEv_form hj (by simp; omega)

end Go.Proofs.YtblcocjbnjfhkaaDoor
