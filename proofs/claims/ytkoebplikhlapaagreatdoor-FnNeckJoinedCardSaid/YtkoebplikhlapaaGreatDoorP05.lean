/- Part 5: rules of the proofs, contracts of functions, plain facts. -/
import Derived.Test.YtkoebplikhlapaaGreatDoorP04
set_option linter.unusedVariables false
set_option linter.unusedSimpArgs false
namespace Go.Proofs.YtkoebplikhlapaaGreatDoor
open Go Go.RowKit
theorem At.ca {Γ : Env} {g : Bool} {cs : Array Value} {l : List AV} (h : ∀ I, HoldsL I l cs.toList) : At Γ g (.const (.agg cs)) (.agg l) := fun I _ _ _ => ⟨cs, rfl, h I⟩
theorem At.nil {Γ : Env} {g : Bool} {o : Operand} {sz : Nat} (h : At Γ g o (.val (.slice none 0 0))) : At Γ g o (.rows sz []) := fun I a he hg => by
  have e : a.eval o = _ := h I a he hg
  rw [e]; exact rows_nil sz I
theorem At.mono {Γ : Env} {g : Bool} {o : Operand} {x y : AV} (h : At Γ g o x) (k : ∀ I v, x.h I v → y.h I v) : At Γ g o y := fun I a he hg => k I _ (h I a he hg)
section
variable {P : Program} {H : List Own} {Γ : Env} {g : Bool} {d : Option Tmp} {y z z' : Operand} {ty T T' E : TypeId} {p : String} {af : Array Edge} {gd : Option (Nat × Bool)} {n m : Nat} {zv : Value}
def Parts (place : Nat → Option (Nat × Nat)) (Γ : Env) (g : Bool) (n : Nat) : List (Nat × Operand) → List (Nat × List AV) → Prop
  | [], [] => True
  | (i, y) :: r, (o, lx) :: s => (place i = some (o, lx.length) ∧ o + lx.length ≤ n ∧ ∀ I a, EnvOk I a Γ → g = true → HoldsL I lx (a.eval y).cells.toList) ∧ Parts place Γ g n r s
  | _, _ => False
theorem Parts.nil {place : Nat → Option (Nat × Nat)} : Parts place Γ g n [] [] := trivial
theorem Parts.c {place : Nat → Option (Nat × Nat)} {i o : Nat} {x : AV} {r : List (Nat × Operand)} {s : List (Nat × List AV)} (hp : place i = some (o, 1)) (ho : Nat.ble (o + 1) n = true) (h : At Γ g y x) (hx : x.One) (k : Parts place Γ g n r s) :
    Parts place Γ g n ((i, y) :: r) ((o, [x]) :: s) := ⟨⟨hp, Nat.le_of_ble_eq_true ho, fun I a he hg => by
      have e := h I a he hg
      rw [cells_one (hx _ _ e)]; exact ⟨⟨e, hx _ _ e⟩, trivial⟩⟩, k⟩
theorem Parts.s {place : Nat → Option (Nat × Nat)} {i o q : Nat} {lx : List AV} {r : List (Nat × Operand)} {s : List (Nat × List AV)} (hp : place i = some (o, q)) (hl : lx.length = q) (ho : Nat.ble (o + q) n = true) (h : At Γ g y (.agg lx)) (k : Parts place Γ g n r s) :
    Parts place Γ g n ((i, y) :: r) ((o, lx) :: s) := ⟨⟨by rw [hp, hl], by rw [hl]; exact Nat.le_of_ble_eq_true ho, fun I a he hg => by
      obtain ⟨cs, e, hl⟩ := h I a he hg
      rw [e]; exact hl⟩, k⟩
def filled (l0 : List AV) (ps : List (Nat × List AV)) : List AV := ps.foldl (fun l q => seg l q.1 q.2) l0
theorem zipIdx_fold (v : Array Value) (o : Nat) : ∀ (cs : Array Value), o + v.size ≤ cs.size → (v.zipIdx.foldl (fun cs (c, j) => cs.setIfInBounds (o + j) c) cs).toList = seg cs.toList o v.toList := by
  intro cs hle
  have key : ∀ (l : List Value) (k : Nat) (cs : Array Value), o + k + l.length ≤ cs.size → ((l.zipIdx k).foldl (fun cs (x : Value × Nat) => cs.setIfInBounds (o + x.2) x.1) cs).toList = seg cs.toList (o + k) l := by
    intro l
    induction l with
    | nil => intro k cs _; simp [seg]
    | cons x l ih =>
      intro k cs hk
      simp only [List.length_cons] at hk
      rw [List.zipIdx_cons, List.foldl_cons, ih (k + 1) _ (by simp; omega)]
      simp only [seg, Array.toList_setIfInBounds]
      apply List.ext_getElem?
      intro t
      simp only [List.getElem?_append, List.length_take, List.length_set, List.getElem?_take, List.getElem?_drop, List.getElem?_set, List.length_append, List.length_cons, Array.length_toList, List.getElem?_cons]
      (repeat' split) <;> first | rfl | omega | (congr 1; omega) | skip
  have := key v.toList 0 cs (by simpa using hle)
  rw [Nat.add_zero] at this
  rw [← this]
  congr 1
  rw [← Array.foldl_toList]
  simp
theorem run_fill {I : Im} {a : Act} {place : Nat → Option (Nat × Nat)} (he : EnvOk I a Γ) (hg : g = true) : ∀ {parts : List (Nat × Operand)} {ps : List (Nat × List AV)} {l0 : List AV} {cs : Array Value}, Parts place Γ g n parts ps → HoldsL I l0 cs.toList → l0.length = n →
    ∃ cs', Instr.fill place cs (parts.map fun q => (q.1, a.eval q.2)) = some cs' ∧ HoldsL I (filled l0 ps) cs'.toList ∧ (filled l0 ps).length = n
  | [], [], l0, cs, _, h, hl => ⟨cs, rfl, h, hl⟩
  | (i, y) :: r, (o, lx) :: s, l0, cs, ⟨⟨h1, h2, h3⟩, k⟩, h, hl => by
    have hv := h3 I a he hg
    have hvl := hv.length
    have hcl := h.length
    have hsz : (a.eval y).cells.size = lx.length := by simpa using hvl
    have hcs : cs.size = n := by simp at hcl; omega
    have hstep : HoldsL I (seg l0 o lx) (seg cs.toList o (a.eval y).cells.toList) := by
      simp only [seg]
      rw [hvl]
      exact ((h.take o).append hv).append (h.drop (o + lx.length))
    have hz := zipIdx_fold (a.eval y).cells o cs (by omega)
    have hsegl : (seg l0 o lx).length = n := by simp only [seg, List.length_append, List.length_take, List.length_drop]; omega
    obtain ⟨cs', e1, e2, e3⟩ := run_fill he hg (parts := r) (ps := s) (l0 := seg l0 o lx) (cs := (a.eval y).cells.zipIdx.foldl (fun cs (c, j) => cs.setIfInBounds (o + j) c) cs) k (by rw [hz]; exact hstep) hsegl
    refine ⟨cs', ?_, e2, e3⟩
    simp only [List.map_cons, Instr.fill, h1]
    rw [if_neg (by rw [hsz, hcs]; simp; omega)]
    exact e1
  | [], _ :: _, _, _, h, _, _ => h.elim
  | _ :: _, [], _, _, h, _, _ => h.elim
def structPlace (P : Program) (T : TypeId) : Nat → Option (Nat × Nat) := fun f =>
  (P.underlying T).bind fun dd => match dd with | .struct fs => (fs[f]?).bind fun x => (P.info? x.type).map fun i => (x.offset, i.size) | _ => none
theorem fill_congr {pl pl' : Nat → Option (Nat × Nat)} : ∀ (parts : List (Nat × Value)) (cs : Array Value), (∀ q ∈ parts, pl q.1 = pl' q.1) → Instr.fill pl cs parts = Instr.fill pl' cs parts
  | [], _, _ => rfl
  | (i, v) :: r, cs, h => by
    simp only [Instr.fill, h (i, v) (by simp)]
    cases pl' i with
    | none => rfl
    | some q => simp only; split
                · rfl
                · exact fill_congr r _ (fun q hq => h q (by simp [hq]))
def fieldsKnown (P : Program) (T : TypeId) : Bool := match P.underlying T with | some (.struct fs) => fs.all fun x => (P.info? x.type).isSome | _ => false
theorem run_places {P : Program} {w : World} (fs : Array Field) (h : (fs.all fun x => (P.info? x.type).isSome) = true) :
    (fs.mapM fun f => do pure (f.offset, ← sizeOf f.type) : Sem (Array (Nat × Nat))).run P w = .ok (fs.map fun f => (f.offset, ((P.info? f.type).map (·.size)).getD 0)) w := by
  have key : ∀ (l : List Field), (∀ x ∈ l, (P.info? x.type).isSome = true) → (l.mapM fun f => do pure (f.offset, ← sizeOf f.type) : Sem (List (Nat × Nat))).run P w = .ok (l.map fun f => (f.offset, ((P.info? f.type).map (·.size)).getD 0)) w := by
    intro l
    induction l with
    | nil => intro _; simp
    | cons x l ih =>
      intro hl
      obtain ⟨i, hi⟩ := Option.isSome_iff_exists.1 (hl x (by simp))
      have hs : (sizeOf x.type).run P w = .ok i.size w := by simp [sizeOf, typeInfo, hi]
      rw [List.mapM_cons]
      simp only [Sem.run_bind, hs, Result.andThen_ok, Sem.run_pure, ih (fun y hy => hl y (by simp [hy]))]
      simp [hi]
  rw [Array.mapM_eq_mapM_toList]
  have h' : ∀ x ∈ fs.toList, (P.info? x.type).isSome = true := by
    intro x hx
    rw [Array.all_eq_true'] at h
    exact h x (by simpa using hx)
  have e := key fs.toList h'
  rw [show (List.toArray <$> (fs.toList.mapM fun f => do pure (f.offset, ← sizeOf f.type) : Sem (List (Nat × Nat)))) = (do let l ← (fs.toList.mapM fun f => do pure (f.offset, ← sizeOf f.type) : Sem (List (Nat × Nat))); pure l.toArray) from rfl]
  simp only [Sem.run_bind, e, Result.andThen_ok, Sem.run_pure]
  congr 1
  apply Array.toList_inj.1; simp
theorem ok_build {l0 : List AV} {parts : List (Nat × Operand)} {ps : List (Nat × List AV)} (hT : Ty P T true n m zv) (hk : fieldsKnown P T = true) (hz : ∀ I, HoldsL I l0 zv.cells.toList) (hn : l0.length = n) (hp : Parts (structPlace P T) Γ g n parts ps) :
    Ok P H Γ g ⟨d, .build T parts.toArray, ty, p, af, gd⟩ (.agg (filled l0 ps)) :=
  ok_of_run fun _ I a w he _ _ hg => by
    obtain ⟨cs', e1, e2, _⟩ := run_fill he hg hp (hz I) hn
    refine ⟨.agg cs', ?_, cs', rfl, e2⟩
    have hzr : (zeroValue T).run P w = .ok zv w := hT.zero
    unfold fieldsKnown at hk
    cases hu : P.underlying T with
    | none => rw [hu] at hk; cases hk
    | some dd =>
      rw [hu] at hk
      cases dd with
      | struct fs =>
        simp only at hk
        have hpl := run_places (P := P) (w := w) fs hk
        have hfc : Instr.fill ((fs.map fun f => (f.offset, ((P.info? f.type).map (·.size)).getD 0))[·]?) zv.cells (parts.map fun q => (q.1, a.eval q.2)) = some cs' := by
          rw [← e1]
          refine fill_congr _ _ fun q _ => ?_
          simp only [structPlace, hu, Option.bind_some, Array.getElem?_map]
          cases hf : fs[q.1]? with
          | none => rfl
          | some f =>
            have := (Array.all_eq_true'.1 hk) f (Array.mem_of_getElem? hf)
            obtain ⟨i, hi⟩ := Option.isSome_iff_exists.1 this
            simp [hi]
        simp only [execOp, Instr.build, Sem.run_bind, hzr, Result.andThen_ok, run_underlying hu, hpl, Sem.run_pure, List.map_toArray, List.toList_toArray]
        rw [hfc]
        rfl
      | _ => cases hk
def slicePlace (sz : Nat) : Nat → Option (Nat × Nat) := fun i => some (i * sz, sz)
theorem holds_any {I : Im} : ∀ {cs : List Value}, (∀ c ∈ cs, c.oneCell' = true) → HoldsL I (List.replicate cs.length AV.any) cs
  | [], _ => trivial
  | c :: cs, h => by
    rw [List.length_cons, List.replicate_succ]
    exact ⟨⟨trivial, h c (by simp)⟩, holds_any (fun d hd => h d (by simp [hd]))⟩
theorem run_newRow {w : World} {T : TypeId} {cs : Array Value} : (newRow T cs).run P w = .ok ⟨w.heap.size, 0, none⟩ (w.alloc (.cells cs T)) := rfl
theorem run_buildSlice {I : Im} {a : Act} {w : World} {ag : Bool} {sz len : Nat} {parts : List (Nat × Operand)} {ps : List (Nat × List AV)} (he : EnvOk I a Γ) (hg : g = true) (hT : P.underlying T = some (.slice E)) (hE : Ty P E ag sz m zv) (hzs : zv.cells.size = sz) (hz1 : ∀ u ∈ zv.cells.toList, u.oneCell' = true)
    (hbig : len * sz ≤ 16777216) (hp : Parts (slicePlace sz) Γ g (len * sz) parts ps) :
    ∃ cs, (Instr.buildSlice T len (parts.toArray.map fun (i, x) => (i, a.eval x))).run P w = .ok (.slice (some ⟨w.heap.size, 0, none⟩) len len) (w.alloc (.cells cs E)) ∧ HoldsL I (filled (List.replicate (len * sz) AV.any) ps) cs.toList ∧ cs.size = len * sz := by
  have hs : (sizeOf E).run P w = .ok sz w := hE.size
  have hz : (zeroValue E).run P w = .ok zv w := hE.zero
  have tile : ∀ z : Array Value, (len * sz = 0 ∨ z = zv.cells) → HoldsL I (List.replicate (len * sz) AV.any) ((Array.range (len * sz)).map fun j => z[j % z.size]!).toList := fun z hzz => by
    have := holds_any (I := I) (cs := ((Array.range (len * sz)).map fun j => z[j % z.size]!).toList) (fun c hc => by
      rcases hzz with h0 | rfl
      · simp [h0] at hc
      · rw [Array.mem_toList_iff, Array.mem_map] at hc
        obtain ⟨j, hj, rfl⟩ := hc
        have hpos : 0 < zv.cells.size := by
          rw [hzs]
          rcases Nat.eq_zero_or_pos sz with h | h
          · subst h; simp at hj
          · exact h
        have hlt := Nat.mod_lt j hpos
        rw [getElem!_pos zv.cells _ hlt]
        exact hz1 _ (by simp))
    refine this.cast ?_ rfl
    simp
  have hl0 : (List.replicate (len * sz) AV.any).length = len * sz := by simp
  have hnb : ¬ len * sz > 2 ^ 24 := by omega
  by_cases h0 : len * sz = 0
  · obtain ⟨cs, e1, e2, e3⟩ := run_fill he hg hp (tile #[] (.inl h0)) hl0
    refine ⟨cs, ?_, e2, by have := e2.length; simp at this; omega⟩
    have e1' : Instr.fill (fun i => some (i * sz, sz)) ((Array.range (len * sz)).map fun j => (#[] : Array Value)[j % (#[] : Array Value).size]!) (parts.map fun q => (q.1, a.eval q.2)) = some cs := e1
    simp only [Instr.buildSlice, Sem.run_bind, run_underlying hT, Result.andThen_ok, hs, if_neg hnb, if_pos h0, Sem.run_pure, List.map_toArray, List.toList_toArray, e1', run_newRow]
  · obtain ⟨cs, e1, e2, e3⟩ := run_fill he hg hp (tile zv.cells (.inr rfl)) hl0
    refine ⟨cs, ?_, e2, by have := e2.length; simp at this; omega⟩
    have e1' : Instr.fill (fun i => some (i * sz, sz)) ((Array.range (len * sz)).map fun j => zv.cells[j % zv.cells.size]!) (parts.map fun q => (q.1, a.eval q.2)) = some cs := e1
    simp only [Instr.buildSlice, Sem.run_bind, run_underlying hT, Result.andThen_ok, hs, if_neg hnb, if_neg h0, hz, Sem.run_pure, List.map_toArray, List.toList_toArray, e1', run_newRow]
theorem ok_lit {ag : Bool} {sz len : Nat} {lxs : List (List AV)} {parts : List (Nat × Operand)} {ps : List (Nat × List AV)} (hT : P.underlying T = some (.slice E)) (hE : Ty P E ag sz m zv) (hzs : zv.cells.size = sz) (hz1 : ∀ u ∈ zv.cells.toList, u.oneCell' = true)
    (hsz : Nat.blt 0 sz = true) (hbig : Nat.ble (len * sz) 16777216 = true) (hp : Parts (slicePlace sz) Γ g (len * sz) parts ps) (hfl : filled (List.replicate (len * sz) AV.any) ps = lxs.flatten) (hlen : lxs.length = len) (hr : ∀ r ∈ lxs, r.length = sz) :
    Ok P H Γ g ⟨d, .buildSlice T len parts.toArray, ty, p, af, gd⟩ (.rows sz lxs) :=
  fun base I a w K Q he hm hw hg k => by
    have hbig' := Nat.le_of_ble_eq_true hbig
    obtain ⟨cs, e1, e2, e3⟩ := run_buildSlice (w := w) he hg hT hE hzs hz1 hbig' hp
    unfold Oper.wp
    simp only [execOp, Sem.run_bind, e1, Result.andThen_ok, Sem.run_pure, Oper.upon_value]
    refine k _ _ _ ⟨some ⟨w.heap.size, 0, none⟩, len, by rw [hlen], by omega, ?_, hr, .inr ⟨_, rfl, rfl, cs, by simp [Im.add], ?_⟩, (fun h => by cases h)⟩ (Step.allocP hm cs E (0, 0))
    · simp only [maxLen]
      have h : 0 < sz := by simpa using hsz
      have : len * 1 ≤ len * sz := Nat.mul_le_mul_left _ h
      omega
    · rw [hfl] at e2
      refine (e2.up (Im.le_add (hm.none (Nat.le_refl _)))).cast rfl ?_
      simp only [List.drop_zero]
      rw [List.take_of_length_le (by rw [← e2.length]; simp)]
structure EqTy (P : Program) (T : TypeId) (n : Nat) : Prop where
  gd : P.eqGuardType P.depth T = false
  eq : ∀ (xs ys : List Int) (w : World), xs.length = n → ys.length = n → (Op.equalIn 10000 T (.agg (xs.map (Value.int .i64)).toArray) (.agg (ys.map (Value.int .i64)).toArray)).run P w = .ok (xs == ys) w
theorem ints_of {I : Im} {v : Value} {xs : List Int} (h : (AV.agg (xs.map AV.int)).h I v) : v = .agg (xs.map (Value.int .i64)).toArray := by
  obtain ⟨cs, e, hl⟩ := h
  have key : ∀ (xs : List Int) (cs : List Value), HoldsL I (xs.map AV.int) cs → cs = xs.map (Value.int .i64) := by
    intro xs
    induction xs with
    | nil => intro cs h; cases cs with
             | nil => rfl
             | cons _ _ => exact h.elim
    | cons x xs ih =>
      intro cs h
      cases cs with
      | nil => exact h.elim
      | cons c cs =>
        have e1 : c = .int .i64 x := h.1.1
        rw [e1, ih cs h.2]; rfl
  rw [e]; congr 1; apply Array.toList_inj.1; rw [key xs _ hl]
theorem ok_eqS (xs ys : List Int) (hT : EqTy P T n) (hx : xs.length = n) (hy' : ys.length = n) (hy : At Γ g y (.agg (xs.map AV.int))) (hz : At Γ g z (.agg (ys.map AV.int))) :
    Ok P H Γ g ⟨d, .binOp .eql T y z T', ty, p, af, gd⟩ (.bool (xs == ys)) :=
  ok_val fun I a w he hg => by
    have e1 := ints_of (hy I a he hg)
    have e2 := ints_of (hz I a he hg)
    simp only [execOp, e1, e2, Sem.run_bind, run_eqGuard_agg w .eql T y z _ _ hT.gd, Result.andThen_ok, run_eql_struct, hT.eq xs ys w hx hy', Sem.run_pure]
theorem ok_neS (xs ys : List Int) (hT : EqTy P T n) (hx : xs.length = n) (hy' : ys.length = n) (hy : At Γ g y (.agg (xs.map AV.int))) (hz : At Γ g z (.agg (ys.map AV.int))) :
    Ok P H Γ g ⟨d, .binOp .neq T y z T', ty, p, af, gd⟩ (.bool (xs != ys)) :=
  ok_val fun I a w he hg => by
    have e1 := ints_of (hy I a he hg)
    have e2 := ints_of (hz I a he hg)
    simp only [execOp, e1, e2, Sem.run_bind, run_eqGuard_agg w .neq T y z _ _ hT.gd, Result.andThen_ok, run_neq_struct, hT.eq xs ys w hx hy', Sem.run_pure]
    rfl
theorem ok_quo {a' b : Int} (hy : At Γ g y (.int a')) (hz : At Γ g z (.int b)) (hb : g = true → 0 ≤ a' ∧ 0 < b ∧ a' ≤ 9223372036854775807) : Ok P H Γ g ⟨d, .binOp .quo T y z T', ty, p, af, gd⟩ (.int (a' / b)) :=
  ok_val fun I a w he hg => by
    have h1 : a.eval y = .int .i64 a' := hy I a he hg
    have h2 : a.eval z = .int .i64 b := hz I a he hg
    obtain ⟨g1, g2, g3⟩ := hb hg
    have hne : b ≠ 0 := by omega
    have h4 : a'.tdiv b = a' / b := Int.tdiv_eq_ediv_of_nonneg g1
    have h5 : a' / b ≤ a' := Int.ediv_le_self _ g1
    have h6 : 0 ≤ a' / b := Int.ediv_nonneg g1 (by omega)
    have h3 : IntKind.i64.wrap (a' / b) = a' / b := IntWalk.i64_in _ (by omega)
    simp only [execOp, h1, h2]
    simp [go_sem, eqGuard, binOp, Op.intDiv, hne, h4, h3]
theorem ok_rem {a' b : Int} (hy : At Γ g y (.int a')) (hz : At Γ g z (.int b)) (hb : g = true → 0 ≤ a' ∧ 0 < b ∧ a' ≤ 9223372036854775807) : Ok P H Γ g ⟨d, .binOp .rem T y z T', ty, p, af, gd⟩ (.int (a' % b)) :=
  ok_val fun I a w he hg => by
    have h1 : a.eval y = .int .i64 a' := hy I a he hg
    have h2 : a.eval z = .int .i64 b := hz I a he hg
    obtain ⟨g1, g2, g3⟩ := hb hg
    have hne : b ≠ 0 := by omega
    have h4 : a'.tmod b = a' % b := Int.tmod_eq_emod_of_nonneg g1
    have h5 := Int.emod_lt_of_pos a' g2
    have h6 := Int.emod_nonneg a' hne
    have h8 := Int.mul_ediv_add_emod a' b
    have h9 : 0 ≤ b * (a' / b) := Int.mul_nonneg (by omega) (Int.ediv_nonneg g1 (by omega))
    have h7 : a' % b ≤ a' := by omega
    have h3 : IntKind.i64.wrap (a' % b) = a' % b := IntWalk.i64_in _ (by omega)
    simp only [execOp, h1, h2]
    simp [go_sem, eqGuard, binOp, Op.intDiv, hne, h4, h3]
end
end Go.Proofs.YtkoebplikhlapaaGreatDoor
