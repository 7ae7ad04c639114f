/- Maps whose keys are pairs of numbers; arrays built. -/
import Derived.Test.YtlppgilifnkapaaGreatMap
import Derived.Test.YtlppgilifnkapaaGreatGive
import Derived.DeepKeys5
set_option linter.unusedVariables false
set_option linter.unusedSimpArgs false
namespace Go.Proofs.YtlppgilifnkapaaGreat
open Go Go.RowKit

/-- Two numbers that fit. -/
abbrev Pair := {p : Int × Int // i64r p.1 ∧ i64r p.2}
def pairVal (p : Pair) : Value := .agg #[.int .i64 p.1.1, .int .i64 p.1.2]
noncomputable def pairKey (P : Program) (t : TypeId) (p : Pair) : Lit := (keyOf P t (pairVal p)).getD .nil
section
variable {P : Program} {c : Ctx} {I : Im} {H : List Own} {Γ : Env} {a : Act} {w : World} {Q : Exit → Act → World → Prop} {ops : Array Oper} {rest : List Oper}
variable {d b n m : Nat} {y z' x' : Operand} {t k e ty T E : TypeId} {p : String} {af : Array Edge} {g : Bool} {gd : Option (Nat × Bool)} {zv : Value}
theorem wf_of {n : Int} (h : i64r n) : (Lit.int .i64 n).wf = true := by
  simp only [Lit.wf, Bool.and_eq_true, decide_eq_true_eq]
  exact ⟨h.1, h.2⟩
theorem pair_some {s : Nat} (ht : P.underlying k = some (.array 2 e)) (he : P.underlying e = some (.int .i64)) (hc : P.cellsOf k = 2) (hce : P.cellsOf e = 1) (hk : P.keyType k = true) (hs : P.types.size = s + 1) (q : Pair) : keyOf P k (pairVal q) = some (pairKey P k q) := by
  obtain ⟨⟨u, v⟩, hu, hv⟩ := q
  have h1 := wf_of hu
  have h2 := wf_of hv
  have : ∃ l, keyOf P k (pairVal ⟨(u, v), hu, hv⟩) = some l := by
    simp [keyOf, ht, hk, pairVal, Value.formed, hc, hs, Program.keyLits, Value.cells, hce, List.range_succ, he, h1, h2]
  obtain ⟨l, hl⟩ := this
  unfold pairKey
  rw [hl]; rfl
theorem mapOf_pair {s : Nat} (hm : P.underlying t = some (.map k e)) (he : P.underlying e = some .bool) (hz : ∀ w, (zeroValue e).run P w = .ok (.bool false) w) {e2 : TypeId} (ht : P.underlying k = some (.array 2 e2)) (he2 : P.underlying e2 = some (.int .i64)) (hc : P.cellsOf k = 2) (hce : P.cellsOf e2 = 1) (hk : P.keyType k = true) (hs : P.types.size = s + 1) (K : WideMaps.KeyLaw P k) :
    MapOf P t k e (pairKey P k) (fun b : Bool => Value.bool b) (fun b => .lit (.bool b)) (fun _ => True) false where
  K := Maps.Keyed.of_law K
  ht := hm
  zr := hz
  fz := trivial
  rd := fun x _ => plainElem_bool he x
  inv := fun v ps x h => by
    unfold plainElem at h
    rw [he] at h
    cases v <;> simp at h
    rw [h.1]
  kinj := fun x y h => by
    have h1 := pair_some ht he2 hc hce hk hs x
    have h2 := pair_some ht he2 hc hce hk hs y
    rw [h] at h1
    have := (Maps.Keyed.of_law K).inj h1 h2
    obtain ⟨⟨u, v⟩, hu⟩ := x
    obtain ⟨⟨u', v'⟩, hu'⟩ := y
    simp [pairVal] at this
    simp [this]
  key := fun x => (Maps.Keyed.of_law K).key (pair_some ht he2 hc hce hk hs x)
theorem pair_key {s : Nat} {e2 : TypeId} (ht : P.underlying k = some (.array 2 e2)) (he2 : P.underlying e2 = some (.int .i64)) (hc : P.cellsOf k = 2) (hce : P.cellsOf e2 = 1) (hk : P.keyType k = true) (hs : P.types.size = s + 1) (q : Pair) (hy : At Γ g x' (.agg [.int q.1.1, .int q.1.2])) : ∀ I a, EnvOk I a Γ → g = true → keyOf P k (a.eval x') = some (pairKey P k q) := fun I a he hg => by
  obtain ⟨cs, e1, h1⟩ := hy I a he hg
  have : cs = #[.int .i64 q.1.1, .int .i64 q.1.2] := by
    obtain ⟨cs⟩ := cs
    match cs, h1 with
    | [u, v], ⟨⟨hu, _⟩, ⟨hv, _⟩, _⟩ =>
      have hu : u = _ := hu
      have hv : v = _ := hv
      rw [hu, hv]
  rw [e1, this]
  exact pair_some ht he2 hc hce hk hs q
/-- An array's literal. -/
theorem ok_buildA {l0 : List AV} {parts : List (Nat × Operand)} {ps : List (Nat × List AV)} {N sz mm : Nat} {ag : Bool} {zv' : Value} (hU : P.underlying T = some (.array N E)) (hE : Ty P E ag sz mm zv') (hT : Ty P T true n m zv) (hz : ∀ I, HoldsL I l0 zv.cells.toList) (hn : l0.length = n) (hp : Parts (slicePlace sz) Γ g n parts ps) :
    Ok P H Γ g ⟨some d, .build T parts.toArray, ty, p, af, gd⟩ (.agg (filled l0 ps)) :=
  ok_of_run fun _ I a w he _ _ hg => by
    obtain ⟨cs', e1, e2, _⟩ := run_fill he hg hp (hz I) hn
    refine ⟨.agg cs', ?_, cs', rfl, e2⟩
    have hzr : (zeroValue T).run P w = .ok zv w := hT.zero
    have hs : (sizeOf E).run P w = .ok sz w := hE.size
    have e1' : Instr.fill (fun i => some (i * sz, sz)) zv.cells (parts.map fun q => (q.1, a.eval q.2)) = some cs' := e1
    simp only [execOp, Instr.build, Sem.run_bind, hzr, Result.andThen_ok, run_underlying hU, hs, Sem.run_pure, List.map_toArray, List.toList_toArray]
    rw [e1']
    rfl
/-- Room made ahead, for no element yet. -/
theorem St.appendMakeNil {TN : TypeId} {ag : Bool} {sz kk' : Nat} {t : Int} {k : IntKind} {y z : Operand} (hs : St c I H Γ a w) (hU : P.underlying T = some (.slice E)) (hN : P.underlying TN = some (.int k)) (hE : Ty P E ag sz m zv) (hzs : zv.cells.size = sz) (h0 : 0 < sz)
    (hy : At Γ true y (.val (.slice none 0 0))) (hz : At Γ true z (.int t)) (ht : t = kk') (hkp : 0 < kk') (hb : kk' * m ≤ 140737488355328) (h63 : kk' ≤ 140737488355328) (hd : Nat.blt d c.n = true)
    (kc : ∀ {g cap' a' w'}, kk' ≤ cap' → cap' ≤ maxLen → St c I (H ++ [Own.raw g E (List.replicate (cap' * sz) none)]) ((d, .val (.slice (some ⟨g, 0, none⟩) kk' cap')) :: Γ) a' w' → wpList P ops Q rest a' w') :
    wpList P ops Q (⟨some d, .call ⟨.builtin .append, #[y, z], #[T, TN]⟩, ty, p, af, none⟩ :: rest) a w := by
  subst ht
  have e1 : a.eval y = _ := hy I a hs.env rfl
  have e2 : a.eval z = _ := hz I a hs.env rfl
  obtain ⟨ti, hi, hi1, hi2, hi3⟩ := hE.get
  have hr := Lib.run_append_nil_zeros (P := P) w T TN ty E ti zv .i64 k hU hN hi hi3 kk' hkp (by omega) (by omega) (by rw [hi2]; omega)
  refine wpList_here rfl ?_
  unfold Oper.wp
  simp only [execOp, resolve, invoke, builtin, Sem.run_bind, Sem.run_pure, Result.andThen_ok, List.map_toArray, List.map_cons, List.map_nil, e1, e2, hr]
  have hge := grownCap_ge w kk' 0 E
  have hmx := grownCap_le_maxLen w kk' 0 E (by simp only [maxLen]; omega)
  have hd' : OwnsAll c.W.heap.size I w.drew H := ⟨fun o ho => ⟨o.keep I I w _ (Im.le_refl I) (fun _ _ => rfl) (hs.own.all o ho).1, (hs.own.all o ho).2⟩, hs.own.nodup⟩
  have hok : (Own.raw w.heap.size E (List.replicate (grownCap w kk' 0 E * sz) none)).ok I (w.drew.alloc (.cells (Builtin.zeroCells zv.cells kk' ++ Builtin.zeroCells zv.cells (grownCap w kk' 0 E - kk')) E)) := by
    refine ⟨_, heap_alloc_get w.drew _, ?_, fun q x hq => ?_⟩
    · have s1 := size_zeroCells zv.cells kk'
      have s2 := size_zeroCells zv.cells (grownCap w kk' 0 E - kk')
      rw [Array.size_append, s1, s2, hzs]
      simp only [List.length_replicate, ← Nat.add_mul]
      congr 1; omega
    · rw [List.getElem?_replicate] at hq
      split at hq <;> cases hq
  exact kc hge hmx (hs.put0 (hs.step.trans (Step.drewAlloc hs.step.models _)) (Im.le_refl _) (hd'.push hs.step.below.size rfl hs.step.models hok) hd rfl)
theorem ok_cutNil {T E : TypeId} {sz : Nat} {ag : Bool} {y z : Operand} {d : Option Tmp} {t : Int} (hT : P.underlying T = some (.slice E)) (hE : Ty P E ag sz m zv) (h : At Γ g y (.val (.slice none 0 0))) (h1 : At Γ g z (.int t)) (ht : t = 0) :
    Ok P H Γ g ⟨d, .slice T y none (some z) none, ty, p, af, gd⟩ (.val (.slice none 0 0)) :=
  ok_of_run fun _ I a w he _ _ hg => by
    subst ht
    have e : a.eval y = _ := h I a he hg
    have e1 : a.eval z = _ := h1 I a he hg
    have hs : (sizeOf E).run P w = .ok sz w := hE.size
    refine ⟨_, ?_, rfl⟩
    simp only [execOp, Option.map_some, Option.map_none, e, e1, Instr.sliceAt, Sem.run_bind, run_underlying hT, Result.andThen_ok]
    simp [Instr.slice, run_underlying hT, Instr.sliceBounds, run_sliceBound, hs, sliced]
end
end Go.Proofs.YtlppgilifnkapaaGreat
