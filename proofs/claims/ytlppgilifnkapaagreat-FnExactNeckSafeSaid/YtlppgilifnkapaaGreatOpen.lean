/- What comes in from outside, read as plain data; what a law's row asks of its end. No function of the program is named here. -/
import Derived.Test.YtlppgilifnkapaaGreatStr
import Derived.ProofKit
import Derived.OpenShut
import Derived.Deep.DeepHandedRow
import Derived.Deep.Slices
import Derived.Lib.LaidTab
import Derived.LaidSub
import Derived.Carry
set_option linter.unusedVariables false
set_option linter.unusedSimpArgs false
namespace Go.Proofs.YtlppgilifnkapaaGreat
open Go Go.RowKit Go.ChangeShapes Go.WideShapes Go.ChangeAt

section
variable {H : Type} {enc : TypeId × Value → H} {P : Program}
/-- All that lies in cells. -/
def memI (W : World) : Im := fun b => match W.heap[b]? with
  | some (.cells cs _ _) => some cs
  | _ => none
theorem memI_models (W : World) : Models W (memI W) := fun b cs e => by
  unfold memI at e
  split at e
  · rename_i cs' T fr h; cases e; exact ⟨T, fr, h⟩
  · cases e
theorem memI_at {W : World} {b : Nat} {cs : Array Value} {T : TypeId} {fr : Nat × Nat} (h : W.heap[b]? = some (.cells cs T fr)) : memI W b = some cs := by unfold memI; rw [h]
theorem cell_heap {W : World} {a : Addr} {v : Value} (h : W.cell? a = some v) : a.spot = none ∧ ∃ cs T fr, W.heap[a.block]? = some (.cells cs T fr) ∧ cs[a.off]? = some v := by
  have hs := World.cell?_spot h
  refine ⟨hs, ?_⟩
  unfold World.cell? at h
  rw [hs] at h
  split at h
  · rename_i cs T fr he; exact ⟨cs, T, fr, he, by simpa using h⟩
  · simp at h
/-- What is read of a row, told of the block. -/
theorem cells_take {W : World} {base : Nat} {a : Addr} {n : Nat} {cs' : List Value} {cs : Array Value} {T : TypeId} {fr : Nat × Nat} (h : W.cells? base a n = some cs') (ha : W.heap[a.block]? = some (.cells cs T fr)) : (cs.toList.drop a.off).take n = cs' := by
  obtain ⟨_, hl, hc⟩ := World.cells?_some h
  apply List.ext_getElem?
  intro i
  rw [List.getElem?_take]
  split
  · rename_i hi
    rw [← hc i hi, List.getElem?_drop]
    obtain ⟨v, hv⟩ : ∃ v, cs'[i]? = some v := ⟨cs'[i]'(by omega), by simp [hl, hi]⟩
    obtain ⟨_, cs2, T2, fr2, h2, h3⟩ := cell_heap ((hc i hi).trans hv)
    have hb : (a.add i).block = a.block := by unfold Addr.add; split <;> rfl
    have ho : (a.add i).off = a.off + i := by unfold Addr.add; split <;> simp_all
    rw [hb, ha] at h2
    cases h2
    rw [hc i hi, hv, ← ho]
    simpa using h3
  · rename_i hi
    rw [List.getElem?_eq_none (by omega)]
theorem wf_range {n : Int} (h : (Lit.int .i64 n).wf = true) : i64r n := by
  simp only [Lit.wf, Bool.and_eq_true, decide_eq_true_eq] at h
  exact ⟨h.1, h.2⟩
theorem okWide_any {w : World} {base : Nat} {t e : TypeId} {v : Value} (hu : P.underlying t = some (.slice e)) (h : Value.okWide P w .any base t v) : Value.okWide P w .any 0 t v := by
  simp only [Value.okWide, hu, Cell.okWide] at h ⊢
  cases v with
  | slice p len cap =>
    cases p with
    | none => cases len <;> cases cap <;> simp [Cell.ok, hu] at h ⊢
    | some a =>
      simp only [Cell.ok, hu] at h ⊢
      obtain ⟨h1, h2, h3, h4, h5⟩ := h
      exact ⟨h1, h2, trivial, h4, h5⟩
  | _ => simp [Cell.ok, hu] at h
/-- The conclusion of a law's row: it returned true, and nothing that was there has turned. -/
theorem post_of_below {f : Func} {s : ChangeSpec} {apart fresh handsOn again : Bool} {W W' : World} {args : Array Value} {v : Value} {ds gs : List (DataW H)} {before pa pv : List MemPlace}
    (hW : DataW.Whole enc P f.params.toList s.vars apart W args.toList ds gs before)
    (hres : ∀ (b : Nat) (sp : Nat → Bool) (hd : Bool), DataW.TrodAll enc P W' b sp hd f.resultTypes.toList (v.resultList f.resultTypes.size) (s.fn H (ds ++ gs)).results [])
    (hargs : ∀ sp : Nat → Bool, (∀ p ∈ before, sp p.block = true) → DataW.TrodAll enc P W' 0 sp true f.params.toList args.toList (s.fn H (ds ++ gs)).args pa)
    (hvars : ∀ sp : Nat → Bool, (∀ p ∈ before, sp p.block = true) → DataW.TrodVars enc P W' sp s.vars (s.fn H (ds ++ gs)).vars pv)
    (hps : before = pa ++ pv) (hb : Below W.heap.size W W')
    (hok : ∀ (j : Nat) (t : TypeId) (r : Value), f.resultTypes[j]? = some t → (v.resultList f.resultTypes.size)[j]? = some r → Value.okWide P W' .any 0 t r) :
    s.post enc P f apart fresh handsOn again W args v W' := by
  have hlt := fun p hp => hW.lt p hp
  have hold : ∀ p ∈ before, (fun b => decide (b < W.heap.size)) p.block = true := fun p hp => by simpa using hlt p hp
  refine ⟨ds, gs, before, [], pa, pv, hW, hres _ _ _, hargs _ hold, hvars _ hold, World.keptBut_mono (fun p hp => ⟨hp, ?_⟩) (hb.frame (· ∈ before)), fun _ => ?_⟩
  · rw [hps, List.mem_append] at hp
    exact Or.inr hp
  · obtain ⟨_, _, _, _, _, hz, hn⟩ := hW
    refine ⟨hok, _, _, ([] ++ pa) ++ pv, ⟨[] ++ pa, pv, ChangeShapes.trodAll_append (hargs _ (fun _ _ => rfl)) (hres _ _ _), hvars _ (fun _ _ => rfl), rfl, ?_, ?_⟩, ?_⟩
    · intro b off hp
      have hp' : MemPlace.cell b off ∈ before := by rw [hps]; simpa using hp
      rw [hb.frozen (p := ⟨b, off, none⟩) (hlt _ hp')]
      exact hz b off hp'
    · intro ha
      have := hn ha
      rw [hps] at this
      simpa using this
    · intro p hp _
      rw [hps]
      simpa using hp
end

section
variable {H : Type} {enc : TypeId × Value → H} {P : Program} {W : World}
/-- Every value of a type that is read from outside is one of these. -/
def Opens {α : Type} (enc : TypeId × Value → H) (P : Program) (W : World) (cf : α → List AV) (Fit : α → Prop) (t : TypeId) : Prop :=
  ∀ n cs x, DataW.trod enc P W 0 (fun _ => true) true n t cs = some x → ∃ y : α, HoldsL (memI W) (cf y) cs ∧ Fit y
theorem opens_int {t : TypeId} (ht : P.underlying t = some (.int .i64)) : Opens enc P W (fun n : Int => [AV.int n]) i64r t := fun n cs x h => by
  obtain ⟨k, rfl, _, hw⟩ := DataW.trod_int ht h
  exact ⟨k, ⟨⟨rfl, rfl⟩, trivial⟩, wf_range hw⟩
theorem opens_bool {t : TypeId} (ht : P.underlying t = some .bool) : Opens enc P W (fun b : Bool => [AV.bool b]) (fun _ => True) t := fun n cs x h => by
  obtain ⟨k, rfl, _⟩ := DataW.trod_bool ht h
  exact ⟨k, ⟨⟨rfl, rfl⟩, trivial⟩, trivial⟩
theorem hold_nil {I : Im} {cs : List Value} {k : Nat} (h : cs.length = k) : HoldsL I [] (cs.drop k) := by
  rw [List.drop_eq_nil_of_le (by omega)]; trivial
theorem hold_cons {I : Im} {l1 l2 : List AV} {cs : List Value} {o s : Nat} (h1 : HoldsL I l1 ((cs.drop o).take s)) (h2 : HoldsL I l2 (cs.drop (o + s))) : HoldsL I (l1 ++ l2) (cs.drop o) := by
  have := h1.append h2
  rwa [← List.drop_drop, List.take_append_drop] at this
def fieldB (fs : Array Field) (i ft off : Nat) : Bool := match fs[i]? with
  | some f => f.type == ft && f.offset == off
  | none => false
theorem part {α : Type} {cf : α → List AV} {Fit : α → Prop} {fs : Array Field} {m i ft off s : Nat} {cs : List Value} {xs : List (DataW H × List MemPlace)} (ho : Opens enc P W cf Fit ft) (hl : xs.length = fs.size)
    (hf : ∀ (i : Nat) (f : Field), fs[i]? = some f → DataW.trod enc P W 0 (fun _ => true) true m f.type ((cs.drop f.offset).take (P.cellsOf f.type)) = xs[i]?) (hb : fieldB fs i ft off = true) (hs : P.cellsOf ft = s) :
    ∃ y : α, HoldsL (memI W) (cf y) ((cs.drop off).take s) ∧ Fit y := by
  unfold fieldB at hb
  split at hb
  · rename_i f hfi
    rw [Bool.and_eq_true, beq_iff_eq, beq_iff_eq] at hb
    have hi : i < fs.size := (Array.getElem?_eq_some_iff.1 hfi).1
    have := hf i f hfi
    rw [List.getElem?_eq_getElem (by omega), hb.1, hb.2, hs] at this
    exact ho _ _ _ this
  · cases hb
/-- A slice that came in, of elements that can be read. -/
theorem opens_rows {α : Type} [Inhabited α] {cf : α → List AV} {Fit : α → Prop} {sz : Nat} {t e : TypeId} (hu : P.underlying t = some (.slice e)) (hc : P.cellsOf e = sz) (h0 : 0 < sz) (hsz : ∀ y, (cf y).length = sz) (ho : Opens enc P W cf Fit e) :
    Opens enc P W (fun l : List α => [AV.rows sz (l.map cf)]) (fun l => ∀ y ∈ l, Fit y) t := fun n cs x h => by
  rcases Deep.open_slice hu h with ⟨rfl, _⟩ | ⟨a, len, cap, m, n, D, Pl, rfl, _, hlc, hcm, hm, _, hel⟩
  · exact ⟨[], ⟨⟨rows_nil _ _, rfl⟩, trivial⟩, by simp⟩
  · have hle : len ≤ m := by rw [hm]; split <;> omega
    rw [hc] at hel
    have ch : ∀ i : Nat, ∃ y : α, i < len → (∃ cs', W.cells? 0 (a.add (i * sz)) sz = some cs' ∧ HoldsL (memI W) (cf y) cs') ∧ Fit y := fun i => by
      by_cases hi : i < len
      · obtain ⟨cs', h1, h2⟩ := hel i (by omega)
        obtain ⟨y, hy, hf⟩ := ho _ _ _ h2
        exact ⟨y, fun _ => ⟨⟨cs', h1, hy⟩, hf⟩⟩
      · exact ⟨default, fun h => absurd h hi⟩
    let g : Nat → α := fun i => (ch i).choose
    have hg : ∀ i, i < len → (∃ cs', W.cells? 0 (a.add (i * sz)) sz = some cs' ∧ HoldsL (memI W) (cf (g i)) cs') ∧ Fit (g i) := fun i => (ch i).choose_spec
    have hrl : ∀ r ∈ ((List.range len).map g).map cf, r.length = sz := fun r hr => by
      simp only [List.map_map, List.mem_map] at hr
      obtain ⟨i, _, rfl⟩ := hr; exact hsz _
    refine ⟨(List.range len).map g, ⟨⟨⟨some a, cap, by simp, by simpa using hlc, hcm, hrl, ?_, (fun h => by cases h)⟩, rfl⟩, trivial⟩, ?_⟩
    · rcases Nat.eq_zero_or_pos len with hz | hpos
      · left; rw [hz]; rfl
      · right
        obtain ⟨⟨cs0, hcs0, hh0⟩, _⟩ := hg 0 hpos
        obtain ⟨_, hl0, hc0⟩ := World.cells?_some hcs0
        have hc00 := hc0 0 (by omega)
        obtain ⟨u, hu0⟩ : ∃ u, cs0[0]? = some u := ⟨_, List.getElem?_eq_getElem (by omega)⟩
        rw [hu0] at hc00
        obtain ⟨hspot, cs, T, fr, hb, _⟩ := cell_heap hc00
        have hab : ((a.add (0 * sz)).add 0) = a := by simp [Addr.add]
        rw [hab] at hb hspot
        refine ⟨a, rfl, hspot, cs, memI_at hb, ?_⟩
        have key : ∀ k, k ≤ len → HoldsL (memI W) (((List.range k).map g).map cf).flatten ((cs.toList.drop a.off).take (k * sz)) := by
          intro k
          induction k with
          | zero => intro _; simp [HoldsL]
          | succ k ih =>
            intro hk
            have h1 := ih (by omega)
            obtain ⟨⟨cs', hcs', hh'⟩, _⟩ := hg k (by omega)
            have hbk : (a.add (k * sz)).block = a.block := by unfold Addr.add; split <;> rfl
            have hok' : (a.add (k * sz)).off = a.off + k * sz := by unfold Addr.add; split <;> simp_all
            have h2 := cells_take hcs' (by rw [hbk]; exact hb)
            rw [hok'] at h2
            rw [List.range_succ, List.map_append, List.map_append, List.flatten_append, Nat.succ_mul]
            have e3 : (cs.toList.drop a.off).take (k * sz + sz) = (cs.toList.drop a.off).take (k * sz) ++ cs' := by
              rw [← h2, ← List.drop_drop, List.take_add]
            rw [e3]
            refine h1.append ?_
            simpa using hh'
        have := key len (Nat.le_refl _)
        have hlen : (((List.range len).map g).map cf).flatten.length = len * sz := by
          rw [flatten_length hrl]
          simp
        rwa [hlen]
    · intro y hy
      obtain ⟨i, hi, rfl⟩ := List.mem_map.1 hy
      exact (hg i (by simpa using hi)).2
end
section
variable {H : Type} {enc : TypeId × Value → H} {P : Program} {W : World}
/-- An argument that is a struct. -/
theorem arg_agg {α : Type} {cf : α → List AV} {Fit : α → Prop} {fs : Array Field} {t base : Nat} {v : Value} {d : DataW H} {ps : List MemPlace} (hu : P.underlying t = some (.struct fs)) (ho : Opens enc P W cf Fit t) (hok : Value.okWide P W .any base t v) (h : DataW.Trod enc P W 0 (fun _ => true) true t v d ps) :
    ∃ y, (AV.agg (cf y)).h (memI W) v ∧ Fit y := by
  unfold Value.okWide at hok
  rw [hu] at hok
  obtain ⟨cs, rfl, _, _⟩ := hok
  obtain ⟨fuel, h⟩ := h
  obtain ⟨y, hy, hf⟩ := ho _ _ _ h
  exact ⟨y, ⟨cs, rfl, hy⟩, hf⟩
theorem one_cells {v : Value} (h : ∀ cs, v ≠ .agg cs) : v.cells.toList = [v] := by
  cases v <;> first | rfl | exact absurd rfl (h _)
theorem arg_one {α : Type} {cf : α → AV} {Fit : α → Prop} {t base : Nat} {v : Value} {d : DataW H} {ps : List MemPlace} (ho : Opens enc P W (fun y => [cf y]) Fit t) (hne : ∀ cs, v ≠ .agg cs) (h : DataW.Trod enc P W 0 (fun _ => true) true t v d ps) :
    ∃ y, (cf y).h (memI W) v ∧ Fit y := by
  obtain ⟨fuel, h⟩ := h
  rw [one_cells hne] at h
  obtain ⟨y, hy, hf⟩ := ho _ _ _ h
  exact ⟨y, hy.1.1, hf⟩
theorem noagg_int {t base : Nat} {v : Value} {k : IntKind} (hu : P.underlying t = some (.int k)) (hok : Value.okWide P W .any base t v) : ∀ cs, v ≠ .agg cs := by
  rintro cs rfl
  simp [Value.okWide, hu, Cell.okWide, Cell.ok] at hok
theorem noagg_slice {t base e : Nat} {v : Value} (hu : P.underlying t = some (.slice e)) (hok : Value.okWide P W .any base t v) : ∀ cs, v ≠ .agg cs := by
  rintro cs rfl
  simp [Value.okWide, hu, Cell.okWide, Cell.ok] at hok
end
/-- What is known of the numbers of what came in. -/
def Stamp.Deep (s : Stamp) : Prop := i64r s.time ∧ i64r s.site
def Dep.Deep (d : Dep) : Prop := i64r d.key ∧ d.stamp.Deep
def Ver.Deep (v : Ver) : Prop := i64r v.key ∧ v.stamp.Deep ∧ i64r v.val ∧ i64r v.client ∧ i64r v.call ∧ ∀ d ∈ v.deps, d.Deep
def Word.Deep (m : Word) : Prop := i64r m.kind ∧ i64r m.frm ∧ i64r m.to ∧ i64r m.call ∧ i64r m.key ∧ m.stamp.Deep ∧ i64r m.val ∧ True ∧ (∀ d ∈ m.deps, d.Deep) ∧ i64r m.slot ∧ i64r m.epoch ∧ (∀ v ∈ m.vers, v.Deep) ∧ (∀ v ∈ m.waits, v.Deep) ∧ ∀ d ∈ m.owes, d.Deep
def Slot.Deep (s : Slot) : Prop := i64r s.epoch ∧ i64r s.stand
def Server.Deep (s : Server) : Prop := i64r s.site ∧ True ∧ (∀ x ∈ s.slots, x.Deep) ∧ (∀ v ∈ s.vers, v.Deep) ∧ (∀ v ∈ s.waits, v.Deep) ∧ (∀ d ∈ s.owes, d.Deep) ∧ ∀ d ∈ s.knows, d.Deep
def Answer.Deep (a : Answer) : Prop := i64r a.key ∧ True ∧ a.ver.Deep
def Call.Deep (k : Call) : Prop := i64r k.client ∧ i64r k.num ∧ i64r k.kind ∧ (∀ n ∈ k.keys, i64r n) ∧ i64r k.val ∧ (∀ d ∈ k.ctx, d.Deep) ∧ i64r k.begin_ ∧ i64r k.end_ ∧ True ∧ k.stamp.Deep ∧ (∀ a ∈ k.got, a.Deep) ∧ ∀ d ∈ k.needs, d.Deep
def Neck.Deep (w : Neck) : Prop := i64r w.time ∧ (∀ s ∈ w.servers, s.Deep) ∧ (∀ m ∈ w.radio, m.Deep) ∧ (∀ k ∈ w.calls, k.Deep) ∧ ∀ l ∈ w.seen, ∀ d ∈ l, d.Deep
def Ev.Deep (e : Ev) : Prop := i64r e.kind ∧ i64r e.at_ ∧ i64r e.client ∧ i64r e.word ∧ i64r e.keep ∧ i64r e.slot ∧ i64r e.call ∧ i64r e.a ∧ i64r e.b ∧ i64r e.c ∧ i64r e.val
end Go.Proofs.YtlppgilifnkapaaGreat
