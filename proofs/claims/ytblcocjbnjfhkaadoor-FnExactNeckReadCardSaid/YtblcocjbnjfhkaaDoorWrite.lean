/- FnExactNeckWrite: for every list of events, the program's NeckWrite returns the text that the reference returns, and the list reads as it did. Conditions: none of ours; the row lists three tables of the library, which the card ties. -/
import Derived.Test.YtblcocjbnjfhkaaDoorCards
import Derived.Test.YtblcocjbnjfhkaaDoorTie
import Derived.ProofKit
import Derived.OpenShut
import Derived.Deep.DeepHandedRow
import Derived.Deep.Slices
import Derived.Lib.LaidTab
import Derived.LaidSub
import Derived.Carry
import Derived.Test.YtblcocjbnjfhkaaDoorWalk8
set_option linter.unusedVariables false
set_option linter.unusedSimpArgs false
set_option maxRecDepth 100000
namespace Go.Proofs.YtblcocjbnjfhkaaDoor
open Go Go.RowKit


section
variable {H : Type} {enc : TypeId × Value → H} {P : Program}
/-- All that lies in cells. -/
def memI (W : World) : Im := fun b => match W.heap[b]? with
  | some (.cells cs _ _) => some cs
  | _ => none
theorem memI_models (W : World) : Models W (memI W) := fun b cs e => by
  unfold memI at e
  split at e
  · rename_i cs' T fr h; cases e; exact ⟨T, fr, h⟩
  · cases e
theorem memI_at {W : World} {b : Nat} {cs : Array Value} {T : TypeId} {fr : Nat × Nat} (h : W.heap[b]? = some (.cells cs T fr)) : memI W b = some cs := by unfold memI; rw [h]
theorem cell_heap {W : World} {a : Addr} {v : Value} (h : W.cell? a = some v) : a.spot = none ∧ ∃ cs T fr, W.heap[a.block]? = some (.cells cs T fr) ∧ cs[a.off]? = some v := by
  have hs := World.cell?_spot h
  refine ⟨hs, ?_⟩
  unfold World.cell? at h
  rw [hs] at h
  split at h
  · rename_i cs T fr he; exact ⟨cs, T, fr, he, by simpa using h⟩
  · simp at h
/-- What is read of a row, told of the block. -/
theorem cells_take {W : World} {base : Nat} {a : Addr} {n : Nat} {cs' : List Value} {cs : Array Value} {T : TypeId} {fr : Nat × Nat} (h : W.cells? base a n = some cs') (ha : W.heap[a.block]? = some (.cells cs T fr)) : (cs.toList.drop a.off).take n = cs' := by
  obtain ⟨_, hl, hc⟩ := World.cells?_some h
  apply List.ext_getElem?
  intro i
  rw [List.getElem?_take]
  split
  · rename_i hi
    rw [← hc i hi, List.getElem?_drop]
    obtain ⟨v, hv⟩ : ∃ v, cs'[i]? = some v := ⟨cs'[i]'(by omega), by simp [hl, hi]⟩
    obtain ⟨_, cs2, T2, fr2, h2, h3⟩ := cell_heap ((hc i hi).trans hv)
    have hb : (a.add i).block = a.block := by unfold Addr.add; split <;> rfl
    have ho : (a.add i).off = a.off + i := by unfold Addr.add; split <;> simp_all
    rw [hb, ha] at h2
    cases h2
    rw [hc i hi, hv, ← ho]
    simpa using h3
  · rename_i hi
    rw [List.getElem?_eq_none (by omega)]
theorem ints_choose : ∀ {cs : List Value}, (∀ c ∈ cs, ∃ n, c = .int .i64 n ∧ i64r n) → ∃ ns : List Int, cs = ns.map (Value.int .i64) ∧ ∀ n ∈ ns, i64r n
  | [], _ => ⟨[], rfl, by simp⟩
  | c :: cs, h => by
    obtain ⟨n, rfl, hn⟩ := h c (by simp)
    obtain ⟨ns, rfl, hns⟩ := ints_choose (cs := cs) fun d hd => h d (by simp [hd])
    exact ⟨n :: ns, rfl, by simpa using ⟨hn, hns⟩⟩
theorem ints_holds (I : Im) : ∀ ns : List Int, HoldsL I (ns.map AV.int) (ns.map (Value.int .i64))
  | [] => trivial
  | n :: ns => ⟨⟨rfl, rfl⟩, ints_holds I ns⟩
theorem wf_range {n : Int} (h : (Lit.int .i64 n).wf = true) : i64r n := by
  simp only [Lit.wf, Bool.and_eq_true, decide_eq_true_eq] at h
  exact ⟨h.1, h.2⟩
theorem okWide_any {w : World} {base : Nat} {t e : TypeId} {v : Value} (hu : P.underlying t = some (.slice e)) (h : Value.okWide P w .any base t v) : Value.okWide P w .any 0 t v := by
  simp only [Value.okWide, hu, Cell.okWide] at h ⊢
  cases v with
  | slice p len cap =>
    cases p with
    | none => cases len <;> cases cap <;> simp [Cell.ok, hu] at h ⊢
    | some a =>
      simp only [Cell.ok, hu] at h ⊢
      obtain ⟨h1, h2, h3, h4, h5⟩ := h
      exact ⟨h1, h2, trivial, h4, h5⟩
  | _ => simp [Cell.ok, hu] at h
/-- The conclusion of a law's row: it returned true, and nothing that was there has turned. -/
theorem post_of_below {f : Func} {s : ChangeSpec} {apart fresh handsOn again : Bool} {W W' : World} {args : Array Value} {v : Value} {ds gs : List (DataW H)} {before pa pv : List MemPlace}
    (hW : DataW.Whole enc P f.params.toList s.vars apart W args.toList ds gs before)
    (hres : ∀ (b : Nat) (sp : Nat → Bool) (hd : Bool), DataW.TrodAll enc P W' b sp hd f.resultTypes.toList (v.resultList f.resultTypes.size) (s.fn H (ds ++ gs)).results [])
    (hargs : ∀ sp : Nat → Bool, (∀ p ∈ before, sp p.block = true) → DataW.TrodAll enc P W' 0 sp true f.params.toList args.toList (s.fn H (ds ++ gs)).args pa)
    (hvars : ∀ sp : Nat → Bool, (∀ p ∈ before, sp p.block = true) → DataW.TrodVars enc P W' sp s.vars (s.fn H (ds ++ gs)).vars pv)
    (hps : before = pa ++ pv) (hb : Below W.heap.size W W')
    (hok : ∀ (j : Nat) (t : TypeId) (r : Value), f.resultTypes[j]? = some t → (v.resultList f.resultTypes.size)[j]? = some r → Value.okWide P W' .any 0 t r) :
    s.post enc P f apart fresh handsOn again W args v W' := by
  have hlt := fun p hp => hW.lt p hp
  have hold : ∀ p ∈ before, (fun b => decide (b < W.heap.size)) p.block = true := fun p hp => by simpa using hlt p hp
  refine ⟨ds, gs, before, [], pa, pv, hW, hres _ _ _, hargs _ hold, hvars _ hold, World.keptBut_mono (fun p hp => ⟨hp, ?_⟩) (hb.frame (· ∈ before)), fun _ => ?_⟩
  · rw [hps, List.mem_append] at hp
    exact Or.inr hp
  · obtain ⟨_, _, _, _, _, hz, hn⟩ := hW
    refine ⟨hok, _, _, ([] ++ pa) ++ pv, ⟨[] ++ pa, pv, ChangeShapes.trodAll_append (hargs _ (fun _ _ => rfl)) (hres _ _ _), hvars _ (fun _ _ => rfl), rfl, ?_, ?_⟩, ?_⟩
    · intro b off hp
      have hp' : MemPlace.cell b off ∈ before := by rw [hps]; simpa using hp
      rw [hb.frozen (p := ⟨b, off, none⟩) (hlt _ hp')]
      exact hz b off hp'
    · intro ha
      have := hn ha
      rw [hps] at this
      simpa using this
    · intro p hp _
      rw [hps]
      simpa using hp
end


section
variable {H : Type} {enc : TypeId × Value → H} {W : World}
theorem slice_ok {P : Program} {t e : TypeId} {v : Value} (hu : P.underlying t = some (.slice e)) (hc : Cell.ok P W .any 0 t v) :
    v = .slice none 0 0 ∨ ∃ a len cap, v = .slice (some a) len cap ∧ len ≤ cap ∧ (cap : Int) ≤ IntKind.i64.max ∧ World.has P W .any 0 a e cap := by
  cases v with
  | slice p len cap =>
    cases p with
    | none =>
      left
      cases len <;> cases cap <;> simp [Cell.ok, hu] at hc ⊢
    | some a =>
      right
      simp only [Cell.ok, hu] at hc
      exact ⟨a, len, cap, rfl, hc⟩
  | _ => simp [Cell.ok, hu] at hc
theorem cells3 : Tryd.prog.cellsOf 3 = 1 := by kernel_rfl
theorem cellsEv : Tryd.prog.cellsOf 39 = 11 := by kernel_rfl
theorem ev_fields : ∀ i, i < 11 → ∃ f : Field, (Tryd.prog.fieldsOf 39)[i]? = some f ∧ f.type = 3 ∧ f.offset = i := by
  have h : ((List.range 11).all fun i => match (Tryd.prog.fieldsOf 39)[i]? with
    | some f => f.type == 3 && f.offset == i
    | none => false) = true := by kernel_rfl
  intro i hi
  have := List.all_eq_true.1 h i (by simpa using hi)
  cases hf : (Tryd.prog.fieldsOf 39)[i]? with
  | none => rw [hf] at this; cases this
  | some f => rw [hf] at this; simp at this; exact ⟨f, rfl, this⟩
theorem ev_underlying : Tryd.prog.underlying 39 = some (.struct (Tryd.prog.fieldsOf 39)) := by kernel_rfl
theorem ev_trod {sp : Nat → Bool} {n : Nat} {cs : List Value} {x : DataW H × List MemPlace} (h : DataW.trod enc Tryd.prog W 0 sp true n 39 cs = some x) : ∃ e : Ev, cs = e.ints.map (Value.int .i64) ∧ e.Fit := by
  obtain ⟨xs, m, _, _, hl, hx, hf⟩ := DataW.trod_struct ev_underlying h
  rw [cellsEv] at hl
  have hsz : (Tryd.prog.fieldsOf 39).size = 11 := by kernel_rfl
  have cell : ∀ c ∈ cs, ∃ n, c = .int .i64 n ∧ i64r n := by
    intro c hc
    obtain ⟨i, hi, rfl⟩ := List.getElem_of_mem hc
    obtain ⟨f, h1, h2, h3⟩ := ev_fields i (by omega)
    have := hf i f h1
    rw [h2, h3, cells3, List.getElem?_eq_getElem (show i < xs.length by omega)] at this
    obtain ⟨n, e, _, hw⟩ := DataW.trod_int Tryd.underlying3 this
    rw [List.drop_eq_getElem_cons hi, List.take_succ_cons, List.take_zero] at e
    exact ⟨n, (List.cons.inj e).1, wf_range hw⟩
  obtain ⟨ns, rfl, hns⟩ := ints_choose cell
  simp only [List.length_map] at hl
  match ns, hl with
  | [a, b, c, d, e, f, g, h, i, j, k], _ => exact ⟨⟨a, b, c, d, e, f, g, h, i, j, k⟩, rfl, hns⟩
/-- A list of events, read. -/
theorem evs_open {sp : Nat → Bool} {v : Value} {d : DataW H} {ps : List MemPlace} (hok : Value.okWide Tryd.prog W .any 0 22 v) (h : DataW.Trod enc Tryd.prog W 0 sp true 22 v d ps) : ∃ l : List Ev, (evsAV l).h (memI W) v ∧ ∀ e ∈ l, e.Fit := by
  have hu : Tryd.prog.underlying 22 = some (.slice 39) := Tryd.underlying22
  have hc : Cell.ok Tryd.prog W .any 0 22 v := by
    simp only [Value.okWide, hu, Cell.okWide] at hok
    exact hok
  obtain ⟨fuel, h⟩ := h
  rcases slice_ok hu hc with rfl | ⟨a, len, cap, rfl, hlc, hcm, _, hsp, _⟩
  · exact ⟨[], rows_nil _ _, by simp⟩
  · rcases Deep.open_slice hu h with ⟨h0, _⟩ | ⟨a', len', cap', m, n, D, Pl, h0, _, _, hcm', hm, _, hel⟩
    · cases h0
    · simp only [Value.cells, List.cons.injEq, and_true, Value.slice.injEq, Option.some.injEq] at h0
      obtain ⟨rfl, rfl, rfl⟩ := h0
      have hle : len ≤ m := by rw [hm]; split <;> omega
      rw [cellsEv] at hel
      have ch : ∀ i : Nat, ∃ e : Ev, i < len → W.cells? 0 (a.add (i * 11)) 11 = some (e.ints.map (Value.int .i64)) ∧ e.Fit := fun i => by
        by_cases hi : i < len
        · obtain ⟨cs', h1, h2⟩ := hel i (by omega)
          obtain ⟨e, rfl, he⟩ := ev_trod h2
          exact ⟨e, fun _ => ⟨h1, he⟩⟩
        · exact ⟨default, fun h => absurd h hi⟩
      let g : Nat → Ev := fun i => (ch i).choose
      have hg : ∀ i, i < len → W.cells? 0 (a.add (i * 11)) 11 = some ((g i).ints.map (Value.int .i64)) ∧ (g i).Fit := fun i => (ch i).choose_spec
      refine ⟨(List.range len).map g, ⟨some a, cap, by simp, by simpa using hlc, hcm', ?_, ?_, (fun h => by cases h), (fun q hq => by cases hq; exact hsp)⟩, ?_⟩
      · intro r hr
        simp only [List.map_map, List.mem_map] at hr
        obtain ⟨i, _, rfl⟩ := hr; rfl
      · rcases Nat.eq_zero_or_pos len with h0 | hpos
        · left; rw [h0]; rfl
        · right
          refine ⟨a, rfl, hsp, ?_⟩
          obtain ⟨_, hl0, hc0⟩ := World.cells?_some (hg 0 hpos).1
          have hc00 := hc0 0 (by omega)
          obtain ⟨x, hx⟩ : ∃ x, ((g 0).ints.map (Value.int .i64))[0]? = some x := ⟨_, rfl⟩
          rw [hx] at hc00
          obtain ⟨_, cs, T, fr, hb, _⟩ := cell_heap hc00
          have hab : ((a.add (0 * 11)).add 0).block = a.block := by simp [Addr.add]
          rw [hab] at hb
          refine ⟨cs, memI_at hb, ?_⟩
          have key : ∀ k, k ≤ len → HoldsL (memI W) (((List.range k).map g).map Ev.cells).flatten ((cs.toList.drop a.off).take (k * 11)) := by
            intro k
            induction k with
            | zero => intro _; simp [HoldsL]
            | succ k ih =>
              intro hk
              have h1 := ih (by omega)
              have hbk : (a.add (k * 11)).block = a.block := by unfold Addr.add; split <;> rfl
              have hok' : (a.add (k * 11)).off = a.off + k * 11 := by unfold Addr.add; split <;> simp_all
              have h2 := cells_take (hg k (by omega)).1 (by rw [hbk]; exact hb)
              rw [hok'] at h2
              rw [List.range_succ, List.map_append, List.map_append, List.flatten_append, Nat.succ_mul]
              have e3 : (cs.toList.drop a.off).take (k * 11 + 11) = (cs.toList.drop a.off).take (k * 11) ++ (g k).ints.map (Value.int .i64) := by
                rw [← h2, ← List.drop_drop, List.take_add]
              rw [e3]
              refine h1.append ?_
              simp only [List.map_cons, List.map_nil, List.flatten_cons, List.flatten_nil, List.append_nil, Ev.cells_ints]
              exact ints_holds _ _
          have := key len (Nat.le_refl _)
          have hlen : (((List.range len).map g).map Ev.cells).flatten.length = len * 11 := by
            rw [flatten_length (sz := 11) (fun r hr => by
              simp only [List.map_map, List.mem_map] at hr
              obtain ⟨i, _, rfl⟩ := hr; rfl)]
            simp
          rwa [hlen]
      · intro e he
        obtain ⟨i, hi, rfl⟩ := List.mem_map.1 he
        exact (hg i (by simpa using hi)).2
end


open Go.ChangeShapes Go.WideShapes Go.ChangeAt
namespace FnWrite
theorem own : ownKnob Tryd.prog.godebug = none := by kernel_rfl
theorem laidOut : laidOutB Tryd.prog = true := by kernel_rfl
theorem gTabType : (Tryd.prog.globals[tabB]?).map (·.type) = some 112 := by kernel_rfl
theorem cellsT : Tryd.prog.cellsOf 112 = 20 := by kernel_rfl
theorem cellsU : Tryd.prog.cellsOf 88 = 1 := by kernel_rfl
/-- What the row's list gives: the table of powers of ten lies at its place. -/
theorem tab_of {W : World} (h : laidMetH Tryd.prog Rows.fnExactNeckWriteRow.laid W) : Tab (memI W) := by
  have h1 := h.filter fun x => x.1.length == 28
  have e : Rows.fnExactNeckWriteRow.laid.filter (fun x => x.1.length == 28) = [(((Rows.fnExactNeckWriteRow.laid)[2]'(by decide)).1, Lib.tabData .u64 Lib.pow10Tab)] := by kernel_rfl
  rw [e] at h1
  have h2 : laidMet Tryd.prog [(((Rows.fnExactNeckWriteRow.laid)[2]'(by decide)).1, Lib.tabData .u64 Lib.pow10Tab)] W := h1
  have h3 := Lib.tabIs_of_head (rest := []) (g := tabB) (by kernel_rfl) gTabType (show Tryd.prog.underlying 112 = some (.array 20 88) by kernel_rfl) (show Tryd.prog.underlying 88 = some (.int .u64) by kernel_rfl) cellsU cellsT h2
  unfold Lib.TabIs World.var? at h3
  rw [show Tryd.prog.globalNamed _ = some tabB from by kernel_rfl] at h3
  simp only [Option.bind_some] at h3
  split at h3
  · rename_i cs T fr hb
    cases h3
    exact memI_at hb
  · cases h3

/-- For every list, in every world that holds the table. -/
theorem contract (H : Type) (enc : TypeId × Value → H) (W : World) (base : Nat) (args : Array Value) (ds gs : List (DataW H)) (before : List MemPlace)
    (hval : ∀ (j : Nat) t v, Tryd.f3.params[j]? = some t → args[j]? = some v → Value.okWide Tryd.prog W .any base t v)
    (hW : DataW.Whole enc Tryd.prog Tryd.f3.params.toList Rows.fnExactNeckWriteSpec.vars false W args.toList ds gs before) (hL : laidMetH Tryd.prog Rows.fnExactNeckWriteRow.laid W) :
    Calls Tryd.prog 3 args W fun e W' => ∃ v, e = .returned v ∧ Rows.fnExactNeckWriteSpec.post enc Tryd.prog Tryd.f3 false true false false W args v W' := by
  have hW' := hW
  obtain ⟨p, q, hA0, hV, rfl, hfz, hnd⟩ := hW
  have hA : DataW.TrodAll enc Tryd.prog W 0 (fun _ => true) true Tryd.f3.params.toList args.toList ds p := hA0
  rw [Tryd.params3] at hA hval
  obtain ⟨v0, vs0, d0, ds0, p0, q0, hargs, rfl, rfl, h0, r0⟩ := trodAll_cons hA
  obtain ⟨rfl, rfl, rfl⟩ := trodAll_nil r0
  obtain rfl : args = #[v0] := by cases args; simp_all
  obtain ⟨rfl, rfl⟩ := trodVars_none hV
  clear hA0
  simp only [List.append_nil] at hW'
  have hok : Value.okWide Tryd.prog W .any 0 22 v0 := by
    have := hval 0 22 v0 rfl rfl
    exact okWide_any (show Tryd.prog.underlying 22 = some (.slice 39) by kernel_rfl) this
  obtain ⟨l, hl, hfit⟩ := evs_open hok h0
  have walk := (c_laws_FnExactNeckWrite l hfit).2 (memI W) W #[v0] (memI_models W) ⟨⟨hl, tab_of hL⟩, trivial⟩
  refine walk.mono fun e W' he => ?_
  cases e with
  | panicked _ => exact he.elim
  | outgrown => exact he.elim
  | returned v =>
    obtain ⟨I', hst, hv⟩ := he
    have hv : v = .bool true := hv
    subst hv
    have hlt : ∀ x ∈ p0, x.block < W.heap.size := fun x hx => hW'.lt x hx
    refine ⟨_, rfl, post_of_below (pa := p0) (pv := []) hW' (fun _ _ _ => trodAll_cons_mk (shut_bool Tryd.underlying4 _) trodAll_mk0) (fun sp hsp => ?_) (fun _ _ => rfl) (by simp) hst.below (ok_one (by kernel_rfl) rfl (okWide_bool_mk Tryd.underlying4 _))⟩
    have := WideElems.Trod_stays laidOut (by kernel_rfl) (of_decide_eq_true (by kernel_rfl)) h0 (fun x hx => hst.below.same (hlt x hx)) hsp
    have h1 := trodAll_cons_mk this (trodAll_mk0 (H := H) (enc := enc) (P := Tryd.prog) (w := W') (base := 0) (spare := sp) (held := true))
    rw [List.append_nil] at h1
    exact h1

def litCells : DataW Unit → Array Value
  | .agg l => (l.filterMap fun d => match d with
    | .lit (.int k n) => some (Value.int k n)
    | _ => none).toArray
  | _ => #[]
def setRow (cs : Array Value) : Obj → Obj
  | .cells _ t frozen => .cells cs t frozen
  | o => o
/-- A world for the witness: the settled one, the tables holding what their initialisers lay. -/
noncomputable def laidWorld (os : Os) : World :=
  { World.holding Tryd.prog os ⟨#[], #[], []⟩ with heap := (((World.holding Tryd.prog os ⟨#[], #[], []⟩).heap.modify 6 (setRow (litCells Rows.laid_math_bits_deBruijn32tab))).modify 7 (setRow (litCells Rows.laid_math_bits_deBruijn64tab))).modify 5 (setRow tabC) }
theorem laid_met (os : Os) : laidMet Tryd.prog Rows.fnExactNeckWriteRow.laid ((laidWorld os).forCall (fun _ _ => 0) ⟨#[], #[.slice none 0 0], []⟩).memory :=
  laidMet_of_run' 8 (by kernel_rfl) (by kernel_rfl)
theorem reads (os : Os) {H : Type} (enc : TypeId × Value → H) : ∃ places, DataW.whole enc Tryd.prog ((laidWorld os).forCall (fun _ _ => 0) ⟨#[], #[.slice none 0 0], []⟩).memory Tryd.f3.params.toList Rows.fnExactNeckWriteSpec.vars false #[Value.slice none 0 0].toList 8 = some ([.nil], [], places) :=
  ⟨[], by kernel_rfl⟩
set_option maxRecDepth 100000 in
theorem lifted (os : Os) (started : os.Started) (H : Type) (enc : TypeId × Value → H) (F : Stop.Interp) :
    ReturnsInHanded {} Tryd.checked os 3 .any ((OpenSpec.ofChange Rows.fnExactNeckWriteSpec).preRow enc Tryd.prog Tryd.f3 Rows.fnExactNeckWriteRow.domain false Rows.fnExactNeckWriteRow.laid) (((OpenSpec.ofChange Rows.fnExactNeckWriteSpec).at F).post enc Tryd.prog Tryd.f3 false true false false) := by
  obtain ⟨places, hx⟩ := reads os enc
  refine returnsInHanded_of_row (C := Tryd.checked) (s := OpenSpec.ofChange Rows.fnExactNeckWriteSpec) own started (by kernel_rfl) Tryd.func3
    (witness_row_at (enc := enc) (C := Tryd.checked) false (laidWorld os) #[.slice none 0 0] rfl (by kernel_rfl) (by kernel_rfl) (by kernel_rfl)
      (OpenSpec.preRow_of_cond 8 hx (by kernel_rfl) (fun k hk => by cases hk) (by kernel_rfl) (laid_met os))) ?_
  intro W base args ds gs before hval hW _ _ _ hL _ _
  exact contract H enc W base args ds gs before hval hW hL
theorem said : Rows.FnExactNeckWriteSaid :=
  OpenClaim.holds_of_cond 3 Tryd.f3 rfl rfl rfl rfl rfl rfl rfl ⟨rfl, rfl, rfl, rfl, rfl⟩ rfl rfl rfl rfl rfl (by kernel_rfl) Tryd.func3 (by kernel_rfl)
    (of_decide_eq_true (by kernel_rfl)) (by unfold Func.isWrapper; first | (rw [if_pos (by decide +kernel)]; kernel_rfl) | (rw [if_neg (by decide +kernel)]; exact ⟨rfl, rfl⟩))
    (fun os started H enc _ F => by rw [OpenClaim.pre_eq_preRow]; exact lifted os started H enc F)
/-- No parameter wants a stand-in; the program's own looks are off. -/
theorem plain (f : FuncId) (fn : Func) (hf : Tryd.pinned.checked.prog.funcNamed Rows.fnExactNeckWriteRow.func = some f) (hfn : Tryd.pinned.checked.prog.funcs[f]? = some fn) :
    true = Tryd.pinned.checked.prog.looks [] ∧ ∀ (j : Nat) t, fn.params[j]? = some t → Tryd.pinned.checked.prog.wantsStandIn t = false := by
  obtain rfl : f = 3 := Option.some.inj ((show Tryd.prog.funcNamed Rows.fnExactNeckWriteRow.func = some 3 by kernel_rfl).symm.trans hf) |>.symm
  obtain rfl : fn = Tryd.f3 := (Option.some.inj (Tryd.func3.symm.trans hfn)).symm
  refine ⟨by kernel_rfl, fun j t ht => ?_⟩
  rw [Tryd.params3] at ht
  obtain rfl : t = 22 := by simpa using Array.mem_of_getElem? ht
  exact (show Tryd.prog.wantsStandIn 22 = false by kernel_rfl)
end FnWrite
/-- The card. -/
theorem fnExactNeckWrite_card : Rows.FnExactNeckWriteCardSaid :=
  Claim7.holds_tied_plain_at .later [] _ _ _ _ FnWrite.said (fun _ h => by cases h) (by kernel_rfl) (fun _ h => by cases h) fnExactNeckWrite_row_tie rfl ⟨rfl, rfl⟩ (by kernel_rfl) rfl FnWrite.plain (by kernel_rfl)

end Go.Proofs.YtblcocjbnjfhkaaDoor
