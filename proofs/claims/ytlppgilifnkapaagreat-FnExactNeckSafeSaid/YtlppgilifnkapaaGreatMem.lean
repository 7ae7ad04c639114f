/- The operations that read persistent memory or make it: loads, addresses, lengths, boxes, struct values. -/
import Derived.Test.YtlppgilifnkapaaGreatOps
set_option linter.unusedVariables false
set_option linter.unusedSimpArgs false
namespace Go.Proofs.YtlppgilifnkapaaGreat
open Go Go.RowKit

/-- What the walk wants to know of a type. -/
structure Ty (P : Program) (T : TypeId) (ag : Bool) (n bytes : Nat) (z : Value) : Prop where
  ag : ((P.underlying T).map fun d => match d with | .struct _ => true | .array _ _ => true | _ => false) = some ag
  info : ((P.info? T).map fun i => (i.size, i.bytes, i.zero)) = some (n, bytes, some z)

section
variable {P : Program} {w : World} {T : TypeId} {n m : Nat} {z : Value}
theorem Ty.get {ag : Bool} (h : Ty P T ag n m z) : ∃ i, P.info? T = some i ∧ i.size = n ∧ i.bytes = m ∧ i.zero = some z := by
  have := h.info
  cases hi : P.info? T with
  | none => rw [hi] at this; simp at this
  | some i => rw [hi] at this; simp at this; exact ⟨i, rfl, this.1, this.2.1, this.2.2⟩
theorem Ty.size {ag : Bool} (h : Ty P T ag n m z) : (sizeOf T).run P w = .ok n w := by
  obtain ⟨i, hi, h1, _⟩ := h.get
  simp [sizeOf, typeInfo, hi, h1]
theorem Ty.zero {ag : Bool} (h : Ty P T ag n m z) : (zeroValue T).run P w = .ok z w := by
  obtain ⟨i, hi, _, _, h1⟩ := h.get
  simp [zeroValue, typeInfo, hi, h1]
theorem Ty.isAgg {ag : Bool} (h : Ty P T ag n m z) : (isAgg T).run P w = .ok ag w := by
  have := h.ag
  cases hi : P.underlying T with
  | none => rw [hi] at this; simp at this
  | some d =>
    rw [hi] at this; simp at this
    subst this
    cases d <;> simp [Go.isAgg, run_underlying hi]

theorem run_load_one (h : Ty P T false n m z) {p : Addr} {v : Value} (hc : w.cell? p = some v) : (loadVar T p).run P w = .ok v w := by
  simp only [loadVar, Sem.run_bind, h.isAgg, Result.andThen_ok]
  simp [hc]
theorem run_load_agg (h : Ty P T true n m z) {p : Addr} {cs : List Value} (hn : cs.length = n) (hc : ∀ j v, cs[j]? = some v → w.cell? (p.add j) = some v) :
    (loadVar T p).run P w = .ok (.agg cs.toArray) w := by
  subst hn
  simp only [loadVar, Sem.run_bind, h.isAgg, Result.andThen_ok, if_true, h.size, run_loadCells_list w p cs hc]
  rfl
end

theorem add_plain (b o j : Nat) : (⟨b, o, none⟩ : Addr).add j = ⟨b, o + j, none⟩ := by unfold Addr.add; split <;> simp_all

section
variable {P : Program} {H : List Own} {Γ : Env} {g : Bool} {d : Option Tmp} {y z : Operand} {ty T T' E : TypeId} {p : String} {af : Array Edge} {gd : Option (Nat × Bool)} {n m o : Nat} {zv : Value}

theorem CellsAt.toArray {I : Im} {q : Addr} {l : List AV} (k : CellsAt I q l) {w : World} (hm : Models w I) :
    ∃ cs : List Value, cs.length = l.length ∧ HoldsL I l cs ∧ ∀ j v, cs[j]? = some v → w.cell? (q.add j) = some v := by
  obtain ⟨hs, cs, e, hh⟩ := k
  refine ⟨_, hh.length, hh, fun j v hv => ?_⟩
  obtain ⟨T, fr, hw⟩ := hm _ _ e
  obtain ⟨b, off, s⟩ := q
  obtain rfl : s = none := hs
  rw [add_plain]
  simp only [World.cell?, hw, Option.isSome_none, Bool.false_eq_true, if_false]
  rw [List.getElem?_take] at hv
  split at hv
  · simpa using hv
  · cases hv

/-- A load of one cell. -/
theorem ok_load1 {x : AV} {l : List AV} (hT : Ty P T false n m zv) (h : At Γ g y (.ptr (x :: l))) : Ok P H Γ g ⟨d, .load T y, ty, p, af, gd⟩ x :=
  ok_of_run fun _ I a w he hm _ hg => by
    obtain ⟨q, e, k⟩ := h I a he hg
    obtain ⟨c, hc, hx, _⟩ := cell_of hm k (i := 0) (x := x) rfl
    obtain ⟨b, off, s⟩ := q
    obtain rfl : s = none := k.1
    refine ⟨c, ?_, hx⟩
    have hc' : w.cell? ⟨b, off, none⟩ = some c := hc
    simp only [execOp, e, Instr.loadAt, Instr.sureAddr, Sem.run_bind, Sem.run_pure, Result.andThen_ok, run_load_one hT hc']
/-- A load of a whole struct. -/
theorem ok_loadS {l : List AV} (hT : Ty P T true n m zv) (h : At Γ g y (.ptr l)) (hn : Nat.ble n l.length = true) : Ok P H Γ g ⟨d, .load T y, ty, p, af, gd⟩ (.agg (l.take n)) :=
  ok_of_run fun _ I a w he hm _ hg => by
    obtain ⟨q, e, k⟩ := h I a he hg
    obtain ⟨cs, h1, h2, h3⟩ := (k.take n).toArray hm
    have hn' : n ≤ l.length := Nat.le_of_ble_eq_true hn
    refine ⟨.agg cs.toArray, ?_, cs.toArray, rfl, by simpa using h2⟩
    have h4 : cs.length = n := by rw [h1, List.length_take]; omega
    simp only [execOp, e, Instr.loadAt, Instr.sureAddr, Sem.run_bind, Sem.run_pure, Result.andThen_ok, run_load_agg hT h4 h3]
/-- The same where the struct fills the row. -/
theorem ok_loadA {l : List AV} (hT : Ty P T true n m zv) (h : At Γ g y (.ptr l)) (hn : l.length = n) : Ok P H Γ g ⟨d, .load T y, ty, p, af, gd⟩ (.agg l) := by
  have := ok_loadS (H := H) (d := d) (ty := ty) (p := p) (af := af) (gd := gd) hT h (by rw [hn]; simp)
  rwa [List.take_of_length_le (by omega)] at this

/-- A struct's field: its offset. -/
def FieldIs (P : Program) (T : TypeId) (f : Nat) (off size : Nat) : Prop :=
  ((P.underlying T).bind fun dd => match dd with | .struct fs => (fs[f]?).map fun x => (x.offset, (P.info? x.type).map (·.size)) | _ => none) = some (off, some size)
theorem FieldIs.get {f off size : Nat} (h : FieldIs P T f off size) : ∃ fs x i, P.underlying T = some (.struct fs) ∧ fs[f]? = some x ∧ x.offset = off ∧ P.info? x.type = some i ∧ i.size = size := by
  unfold FieldIs at h
  cases hu : P.underlying T with
  | none => rw [hu] at h; simp at h
  | some dd =>
    rw [hu] at h
    cases dd <;> simp at h
    rename_i fs
    obtain ⟨x, h1, h2, h3⟩ := h
    obtain ⟨i, hi, hs⟩ := h3
    exact ⟨fs, x, i, rfl, h1, h2, hi, hs⟩
theorem run_fieldAt {w : World} {f off size : Nat} (h : FieldIs P T f off size) (hs : 0 < size) (b o : Nat) :
    (Instr.fieldAt T (.pointer (some ⟨b, o, none⟩)) f).run P w = .ok (.pointer (some ⟨b, o + off, none⟩)) w := by
  obtain ⟨fs, x, i, h1, h2, h3, h4, h5⟩ := h.get
  have h6 : (sizeOf x.type).run P w = .ok size w := by simp [sizeOf, typeInfo, h4, h5]
  simp only [Instr.fieldAt, Sem.run_bind, run_underlying h1, Result.andThen_ok, h2, Instr.sureAddr, Sem.run_pure, fieldPlace, h6]
  rw [if_neg (by omega)]
  simp [h3, add_plain]

theorem ok_fieldP {f size : Nat} {l : List AV} (hf : FieldIs P T f o size) (hs : Nat.blt 0 size = true) (h : At Γ g y (.ptr l)) : Ok P H Γ g ⟨d, .fieldAddr T y f, ty, p, af, gd⟩ (.ptr (l.drop o)) :=
  ok_of_run fun _ I a w he hm _ hg => by
    obtain ⟨q, e, k⟩ := h I a he hg
    obtain ⟨b, off, s⟩ := q
    obtain rfl : s = none := k.1
    refine ⟨_, ?_, ⟨b, off + o, none⟩, rfl, k.drop o⟩
    simp only [execOp, e, Sem.run_bind, run_fieldAt hf (by simpa using hs) b off, Result.andThen_ok]
    rfl
/-- A pointer that is known outright. -/
theorem ok_fieldV {f size b q : Nat} (hf : FieldIs P T f o size) (hs : Nat.blt 0 size = true) (h : At Γ g y (.val (.pointer (some ⟨b, q, none⟩)))) : Ok P H Γ g ⟨d, .fieldAddr T y f, ty, p, af, gd⟩ (.val (.pointer (some ⟨b, q + o, none⟩))) :=
  ok_val fun I a w he hg => by
    have e : a.eval y = _ := h I a he hg
    simp only [execOp, e, Sem.run_bind, run_fieldAt hf (by simpa using hs) b q, Result.andThen_ok]
    rfl

/-- A load from a variable of the call's own. -/
theorem ok_loadB {b q : Nat} {x : AV} {l : List AV} (k : Nat) (hT : Ty P T false n m zv) (h : At Γ g y (.val (.pointer (some ⟨b, q, none⟩)))) (hH : H[k]? = some (Own.box b T' l)) (hx : l[q]? = some x) :
    Ok P H Γ g ⟨d, .load T y, ty, p, af, gd⟩ x :=
  ok_of_run fun base I a w he hm hw hg => by
    have e : a.eval y = _ := h I a he hg
    obtain ⟨cs, hb, hl⟩ := (hw.all _ (List.mem_of_getElem? hH)).1
    obtain ⟨c, hc, hxc, _⟩ := hl.get hx
    refine ⟨c, ?_, hxc⟩
    have hcell : w.cell? ⟨b, q, none⟩ = some c := by simp only [World.cell?, hb]; simpa using hc
    simp only [execOp, e, Instr.loadAt, Instr.sureAddr, Sem.run_bind, Sem.run_pure, Result.andThen_ok, run_load_one hT hcell]
theorem ok_loadBS {b q : Nat} {l l' : List AV} (k : Nat) (hT : Ty P T true n m zv) (h : At Γ g y (.val (.pointer (some ⟨b, q, none⟩)))) (hH : H[k]? = some (Own.box b T' l)) (hx : (l.drop q).take n = l') (hn : l'.length = n) :
    Ok P H Γ g ⟨d, .load T y, ty, p, af, gd⟩ (.agg l') :=
  ok_of_run fun base I a w he hm hw hg => by
    have e : a.eval y = _ := h I a he hg
    obtain ⟨cs, hb, hl⟩ := (hw.all _ (List.mem_of_getElem? hH)).1
    have hl2 := (hl.drop q).take n
    rw [hx] at hl2
    refine ⟨.agg ((cs.toList.drop q).take n).toArray, ?_, _, rfl, by simpa using hl2⟩
    have h4 : ((cs.toList.drop q).take n).length = n := by rw [hl2.length, hn]
    have h3 : ∀ j v, ((cs.toList.drop q).take n)[j]? = some v → w.cell? ((⟨b, q, none⟩ : Addr).add j) = some v := fun j v hv => by
      rw [add_plain]
      simp only [World.cell?, hb, Option.isSome_none, Bool.false_eq_true, if_false]
      rw [List.getElem?_take] at hv
      split at hv
      · simpa using hv
      · cases hv
    simp only [execOp, e, Instr.loadAt, Instr.sureAddr, Sem.run_bind, Sem.run_pure, Result.andThen_ok, run_load_agg hT h4 h3]

theorem ok_len {s : Nat} {l : List (List AV)} (hT : P.underlying T = some (.slice E)) (h : At Γ g y (.rows s l)) : Ok P H Γ g ⟨d, .call ⟨.builtin .len, #[y], #[T]⟩, ty, p, af, gd⟩ (.int l.length) :=
  ok_val fun I a w he hg => by
    obtain ⟨q, cap, e, _⟩ := h I a he hg
    simp only [execOp, resolve, List.map_toArray, List.map_cons, List.map_nil, e]
    simp [go_sem, Builtin.len_, run_underlying hT]
theorem ok_lenS {s : ByteArray} (hT : P.underlying T = some .string) (h : At Γ g y (.str s)) : Ok P H Γ g ⟨d, .call ⟨.builtin .len, #[y], #[T]⟩, ty, p, af, gd⟩ (.int s.size) :=
  ok_val fun I a w he hg => by
    have e : a.eval y = _ := h I a he hg
    simp only [execOp, resolve, List.map_toArray, List.map_cons, List.map_nil, e]
    simp [go_sem, Builtin.len_, run_underlying hT]
theorem ok_lenV {q : Option Addr} {k cap : Nat} (hT : P.underlying T = some (.slice E)) (h : At Γ g y (.val (.slice q k cap))) : Ok P H Γ g ⟨d, .call ⟨.builtin .len, #[y], #[T]⟩, ty, p, af, gd⟩ (.int k) :=
  ok_val fun I a w he hg => by
    have e : a.eval y = _ := h I a he hg
    simp only [execOp, resolve, List.map_toArray, List.map_cons, List.map_nil, e]
    simp [go_sem, Builtin.len_, run_underlying hT]

/-- The address of a slice's element. -/
theorem ok_idx {s : Nat} {ag : Bool} {l : List (List AV)} {i : Int} (hT : P.underlying T = some (.slice E)) (hE : Ty P E ag s m zv) (h : At Γ g y (.rows s l)) (hi : At Γ g z (.int i)) (hb : g = true → 0 ≤ i ∧ i < l.length) :
    Ok P H Γ g ⟨d, .indexAddr T y z, ty, p, af, gd⟩ (.ptr (nth l i.toNat)) :=
  ok_of_run fun _ I a w he hm _ hg => by
    obtain ⟨h0, h1⟩ := hb hg
    have e2 : a.eval z = _ := hi I a he hg
    obtain ⟨b, off, cap, e, k⟩ := rows_at (h I a he hg) (i := i.toNat) (by omega)
    refine ⟨_, ?_, _, rfl, k⟩
    have hs : (sizeOf E).run P w = .ok s w := hE.size
    simp only [execOp, e, e2, Instr.indexAt, asIntOf, Sem.run_bind, Sem.run_pure, Result.andThen_ok, run_underlying hT]
    simp [h0, h1, add_plain, hs]
end
end Go.Proofs.YtlppgilifnkapaaGreat
