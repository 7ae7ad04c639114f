/- Maps of the call's own: made, looked up, written. -/
import Derived.Test.YtlppgilifnkapaaGreatDraw3
import Derived.Maps.Own
import Derived.Maps.Views
set_option linter.unusedVariables false
set_option linter.unusedSimpArgs false
namespace Go.Proofs.YtlppgilifnkapaaGreat
open Go Go.RowKit

/-- A map's type: keys of κ, elements of ε, both read as literals. -/
structure MapOf (P : Program) (t k e : TypeId) {κ ε : Type} (kl : κ → Lit) (ev : ε → Value) (ed : ε → DataW Unit) (fits : ε → Prop) (z : ε) : Prop where
  K : Maps.Keyed P k
  ht : P.underlying t = some (.map k e)
  zr : ∀ w, (zeroValue e).run P w = .ok (ev z) w
  fz : fits z
  rd : ∀ x, fits x → plainElem P e (ev x) = some (ed x, [])
  inv : ∀ v ps x, plainElem P e v = some (ed x, ps) → v = ev x
  kinj : ∀ x y, kl x = kl y → x = y
  key : ∀ x, WideAt.IsKeyLit (kl x)

def Own.omap (P : Program) (k e : TypeId) {κ ε : Type} (kl : κ → Lit) (ed : ε → DataW Unit) (z : ε) (b n : Nat) (m : κ → ε) : Own :=
  ⟨some b, fun I w => ∃ D : DataW Unit, w.ownsMap P k (plainElem P e) b n D ∧ ∀ x, D.atKey (kl x) (ed z) = ed (m x),
   fun I I' w w' _ hb ⟨D, ⟨es, clock, h, h2⟩, hm⟩ => ⟨D, ⟨es, clock, (hb b rfl).trans h, h2⟩, hm⟩⟩

section
variable {P : Program} {c : Ctx} {I : Im} {H : List Own} {Γ : Env} {a : Act} {w : World} {Q : Exit → Act → World → Prop} {ops : Array Oper} {rest : List Oper}
variable {d b n : Nat} {y z' x' : Operand} {t k e ty : TypeId} {p : String} {af : Array Edge} {g : Bool} {gd : Option (Nat × Bool)}
variable {κ ε : Type} {kl : κ → Lit} {ev : ε → Value} {ed : ε → DataW Unit} {fits : ε → Prop} {z : ε}

theorem ok_lookup {m : κ → ε} {x : κ} (kk : Nat) (hM : MapOf P t k e kl ev ed fits z) (hm : At Γ g y (.val (.map (some b)))) (hx : ∀ I a, EnvOk I a Γ → g = true → keyOf P k (a.eval x') = some (kl x)) (hH : H[kk]? = some (Own.omap P k e kl ed z b n m)) :
    Ok P H Γ g ⟨some d, .lookup t y x' false, ty, p, af, gd⟩ (.val (ev (m x))) :=
  ok_of_run fun base I a w he hmo hw hg => by
    obtain ⟨D, hown, hD⟩ := (hw.all _ (List.mem_of_getElem? hH)).1
    have e1 : a.eval y = _ := hm I a he hg
    obtain ⟨v, ps, hrun, hv⟩ := hown.lookup hM.K hM.ht (hM.zr w) (hM.rd z hM.fz) (hx I a he hg)
    rw [hD x] at hv
    refine ⟨v, ?_, hM.inv v ps _ hv⟩
    simp only [execOp, e1, Sem.run_bind, hrun, Result.andThen_ok, Sem.run_pure]

theorem St.makeMap (hs : St c I H Γ a w) (hd : Nat.blt d c.n = true) (hM : MapOf P t k e kl ev ed fits z)
    (kk : ∀ b a' w', St c I (H ++ [Own.omap P k e kl ed z b 0 fun _ => z]) ((d, .val (.map (some b))) :: Γ) a' w' → wpList P ops Q rest a' w') :
    wpList P ops Q (⟨some d, .makeMap t none, ty, p, af, none⟩ :: rest) a w := by
  refine wpList_here rfl ?_
  unfold Oper.wp
  simp only [execOp, Option.map_none, Sem.run_bind, run_makeMap, Result.andThen_ok, Sem.run_pure, Oper.upon_value]
  exact kk w.heap.size _ _ (hs.put0 (hs.step.trans (Step.alloc hs.step.models _)) (Im.le_refl _) (hs.own.push (x := Own.omap P k e kl ed z w.heap.size 0 fun _ => z) hs.step.below.size rfl hs.step.models
    ⟨.map [], World.ownsMap_made w P k (plainElem P e), fun x => by simp [DataW.atKey]⟩) hd rfl)

theorem owns_update {D : DataW Unit} {R : Value → Option (DataW Unit × List MemPlace)} (h : w.ownsMap P k R b n D) (K : Maps.Keyed P k) (ht : P.underlying t = some (.map k e)) (hn : n < maxLen) {key val : Value} {lk : Lit} {dv : DataW Unit} {ps : List MemPlace}
    (hkey : keyOf P k key = some lk) (hv : R val = some (dv, ps)) : ∃ w', (Instr.mapUpdate t (.map (some b)) key val).run P w = .ok () w' ∧ w'.ownsMap P k R b (n + 1) (D.put lk dv) ∧ w.grownBy w' (some b) ∧ w'.heap.size = w.heap.size := by
  obtain ⟨w', h1, h2, h3⟩ := h.update K ht hn hkey hv
  refine ⟨w', h1, h2, h3, ?_⟩
  obtain ⟨es, clock, hb, F, hs, rfl⟩ := h
  obtain ⟨es', clock', hrun, _⟩ := Maps.fit_store (R' := R) K ht hb F (Nat.lt_of_le_of_lt hs hn) (fun _ _ _ _ hz => hz) hkey hv
  rw [hrun] at h1
  cases h1
  simp [ChangeMaps.setBlock]
theorem St.mapUpdate {m : κ → ε} {x : κ} {v : ε} [DecidableEq κ] (kk : Nat) (hs : St c I H Γ a w) (hM : MapOf P t k e kl ev ed fits z) (hm : At Γ true y (.val (.map (some b)))) (hx : ∀ I a, EnvOk I a Γ → true = true → keyOf P k (a.eval x') = some (kl x))
    (hv : At Γ true z' (.val (ev v))) (hf : fits v) (hn : n < 140737488355328) (hH : H[kk]? = some (Own.omap P k e kl ed z b n m))
    (kn : ∀ a' w', St c I (H.set kk (Own.omap P k e kl ed z b (n + 1) fun y => if y = x then v else m y)) Γ a' w' → wpList P ops Q rest a' w') :
    wpList P ops Q (⟨none, .mapUpdate t y x' z', ty, p, af, none⟩ :: rest) a w := by
  obtain ⟨⟨D, hown, hD⟩, h2⟩ := hs.own.all _ (List.mem_of_getElem? hH)
  obtain ⟨hbb, hbI, hbw⟩ := h2 b rfl
  have e1 : a.eval y = _ := hm I a hs.env rfl
  have e2 : a.eval z' = _ := hv I a hs.env rfl
  obtain ⟨w', hrun, hown', hgr, hsz⟩ := owns_update hown hM.K hM.ht (by simp only [maxLen]; omega) (hx I a hs.env rfl) (hM.rd v hf)
  have hoth : ∀ j, some j ≠ some b → w'.heap[j]? = w.heap[j]? := fun j hj => by
    by_cases hlt : j < w.heap.size
    · exact hgr.block j hlt hj
    · rw [Array.getElem?_eq_none (by omega), Array.getElem?_eq_none (by omega)]
  refine wpList_here rfl ?_
  unfold Oper.wp
  simp only [execOp, e1, e2, Sem.run_bind, hrun, Result.andThen_ok, Sem.run_pure]
  refine kn _ w' (hs.written (hs.step.write hbb hbI hsz hgr.os hgr.tape hgr.output fun j hj => hoth j (by simpa using hj)) (hs.own.write hH rfl hsz hoth ⟨_, hown', fun q => ?_⟩))
  have hDm : Maps.IsMap D := by obtain ⟨es, clock, _, _, _, rfl⟩ := hown; exact ⟨_, rfl⟩
  show _ = ed (if q = x then v else m q)
  by_cases hq : q = x
  · subst hq; rw [if_pos rfl]; exact Maps.atKey_put_same hDm (hM.key q) _ _
  · rw [if_neg hq, Maps.atKey_put_other (fun h => hq (hM.kinj _ _ h)), hD q]

theorem mapOf_int {P : Program} {t k e : TypeId} (ht : P.underlying t = some (.map k e)) (hk : P.underlying k = some (.int .i64)) (he : P.underlying e = some (.int .i64)) (hz : ∀ w, (zeroValue e).run P w = .ok (.int .i64 0) w) :
    MapOf P t k e (fun x : Int => Lit.int .i64 x) (fun x : Int => Value.int .i64 x) (fun x => .lit (.int .i64 x)) (fun x => -9223372036854775808 ≤ x ∧ x ≤ 9223372036854775807) 0 where
  K := Maps.int_keyed hk
  ht := ht
  zr := hz
  fz := by omega
  rd := fun x hx => plainElem_int he (by simp [Lit.wf, IntKind.min, IntKind.max, IntKind.signed, IntKind.bits]; omega)
  inv := fun v ps x h => by
    obtain ⟨a, rfl, h2, _⟩ := plainElem_int_inv he h
    simp at h2; rw [h2.1]
  kinj := fun x y h => by cases h; rfl
  key := fun x => trivial
theorem int_key {P : Program} {k : TypeId} (hk : P.underlying k = some (.int .i64)) {x : Int} (hy : At Γ g x' (.int x)) (hb : -9223372036854775808 ≤ x ∧ x ≤ 9223372036854775807) : ∀ I a, EnvOk I a Γ → g = true → keyOf P k (a.eval x') = some (Lit.int .i64 x) := fun I a he hg => by
  have e1 : a.eval x' = .int .i64 x := hy I a he hg
  rw [e1]
  exact Maps.keyOf_int_mk hk (by simp [Lit.wf, IntKind.min, IntKind.max, IntKind.signed, IntKind.bits]; omega)
end
end Go.Proofs.YtlppgilifnkapaaGreat
