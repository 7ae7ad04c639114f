/- Results that lie in memory; function values; slices as lists of data. -/
import Derived.Test.YtlppgilifnkapaaGreatVals
set_option linter.unusedVariables false
set_option linter.unusedSimpArgs false
namespace Go.Proofs.YtlppgilifnkapaaGreat
open Go Go.RowKit

section
variable {P : Program} {c : Ctx} {I : Im} {H : List Own} {Γ : Env} {a : Act} {w : World} {Q : Exit → Act → World → Prop}

def resVal (tmps : Array Value) (r : ResultVar) : Sem Value :=
  match r with
  | .tmp t => pure (tmps.getD t undef)
  | .cell s t => do loadVar t (← asAddr (tmps.getD s undef))
/-- What a result variable holds. -/
def ResIs (P : Program) (H : List Own) (Γ : Env) (r : ResultVar) (x : AV) : Prop :=
  ∀ (base : Nat) I a w, EnvOk I a Γ → Models w I → OwnsAll base I w H →
    ∃ v, (resVal a.tmps r).run P w = .ok v w ∧ x.h I v
theorem ResIs.t {t : Nat} {x : AV} (h : Env.get t Γ = some x) : ResIs P H Γ (.tmp t) x := fun _ _ _ _ he _ _ => ⟨_, rfl, he t x h⟩
theorem ResIs.nil {t : Nat} {sz : Nat} (h : Env.get t Γ = some (.val (.slice none 0 0))) : ResIs P H Γ (.tmp t) (.rows sz []) := fun _ I a _ he _ _ => ⟨_, rfl, by
  have e : a.tmps.getD t undef = _ := he t _ h
  rw [e]; exact rows_nil sz I⟩
theorem ResIs.s {s b n m : Nat} {T T' : TypeId} {zv : Value} {l : List AV} (k : Nat) (hT : Ty P T true n m zv) (h : Env.get s Γ = some (.val (.pointer (some ⟨b, 0, none⟩)))) (hk : H[k]? = some (Own.box b T' l)) (hn : l.length = n) : ResIs P H Γ (.cell s T) (.agg l) := fun base I a w he _ hw => by
  have e : a.tmps.getD s undef = _ := he s _ h
  obtain ⟨cs, hb, hl⟩ := (hw.all _ (List.mem_of_getElem? hk)).1
  have hlen := hl.length
  have h3 : ∀ j v, cs.toList[j]? = some v → w.cell? ((⟨b, 0, none⟩ : Addr).add j) = some v := fun j v hv => by
    rw [add_plain]
    simp only [World.cell?, hb, Option.isSome_none, Bool.false_eq_true, if_false]
    simpa using hv
  refine ⟨.agg cs, ?_, cs, rfl, hl⟩
  have := run_load_agg hT (w := w) (p := ⟨b, 0, none⟩) (cs := cs.toList) (by omega) h3
  simp only [resVal, e, asAddr, Sem.run_bind, Sem.run_pure, Result.andThen_ok]
  simpa using this
theorem ResIs.cc {s b m : Nat} {T T' : TypeId} {zv : Value} {x : AV} (k : Nat) (hT : Ty P T false 1 m zv) (h : Env.get s Γ = some (.val (.pointer (some ⟨b, 0, none⟩)))) (hk : H[k]? = some (Own.box b T' [x])) : ResIs P H Γ (.cell s T) x := fun base I a w he _ hw => by
  have e : a.tmps.getD s undef = _ := he s _ h
  obtain ⟨cs, hb, hl⟩ := (hw.all _ (List.mem_of_getElem? hk)).1
  obtain ⟨u, hu, hx, _⟩ := hl.get (i := 0) (x := x) rfl
  have hc : w.cell? ⟨b, 0, none⟩ = some u := by simp only [World.cell?, hb]; simpa using hu
  refine ⟨u, ?_, hx⟩
  simp only [resVal, e, asAddr, Sem.run_bind, Sem.run_pure, Result.andThen_ok, run_load_one hT hc]

def ResL (P : Program) (H : List Own) (Γ : Env) : List ResultVar → List AV → Prop
  | [], [] => True
  | r :: rs, x :: xs => ResIs P H Γ r x ∧ ResL P H Γ rs xs
  | _, _ => False

theorem run_mapM_results {base : Nat} (he : EnvOk I a Γ) (hm : Models w I) (hw : OwnsAll base I w H) : ∀ {rs : List ResultVar} {xs : List AV}, ResL P H Γ rs xs →
    ∃ vs : List Value, (rs.mapM (resVal a.tmps)).run P w = .ok vs w ∧ HoldsA I xs vs
  | [], [], _ => ⟨[], by simp, trivial⟩
  | r :: rs, x :: xs, ⟨h, k⟩ => by
    obtain ⟨v, h1, h2⟩ := h base I a w he hm hw
    obtain ⟨vs, h3, h4⟩ := run_mapM_results he hm hw k
    refine ⟨v :: vs, ?_, h2, h4⟩
    rw [List.mapM_cons]
    simp only [Sem.run_bind, h1, h3, Result.andThen_ok, Sem.run_pure]
  | [], _ :: _, h => h.elim
  | _ :: _, [], h => h.elim

/-- The results of a function, as one value. -/
def resAV : List AV → AV
  | [x] => x
  | l => .tup l

theorem St.retRun {fn : Func} {rs : List ResultVar} {xs : List AV} (hs : St c I H Γ a w) (hr : fn.results = rs.toArray) (h : ResL P H Γ rs xs) : ∃ v, (results fn a.tmps).run P w = .ok v w ∧ (resAV xs).h I v := by
  obtain ⟨vs, h1, h2⟩ := run_mapM_results (P := P) hs.env hs.step.models hs.own h
  have hlen := h2.length
  have e : (results fn a.tmps).run P w = .ok (if h : vs.toArray.size = 1 then vs.toArray[0] else .tuple vs.toArray) w := by
    show (do let vs ← fn.results.mapM (resVal a.tmps); pure (if h : vs.size = 1 then vs[0] else .tuple vs) : Sem Value).run P w = _
    rw [hr, Array.mapM_eq_mapM_toList]
    rw [show ∀ (f : ResultVar → Sem Value), (List.toArray <$> (rs.toArray.toList.mapM f)) = (do let l ← rs.mapM f; pure l.toArray) from fun _ => rfl]
    simp only [Sem.run_bind, h1, Result.andThen_ok, Sem.run_pure]
  refine ⟨_, e, ?_⟩
  match xs, vs, h2 with
  | [], [], _ => exact ⟨#[], rfl, trivial⟩
  | [x], [v], h2 => exact h2.1
  | x :: x' :: xs, v :: v' :: vs, h2 => exact ⟨(v :: v' :: vs).toArray, rfl, h2⟩

theorem St.ret {fn : Func} {rs : List ResultVar} {xs : List AV} {res : AV} (hs : St c I H Γ a w) (hr : fn.results = rs.toArray) (h : ResL P H Γ rs xs) (e : resAV xs = res) : bodyPost P fn (Ret c.I c.W res) .ret a w := by
  subst e
  obtain ⟨v, h1, h2⟩ := hs.retRun hr h
  exact ⟨hs.defers, v, h1, I, hs.step, h2⟩
theorem St.retn {fn : Func} {rs : List ResultVar} {xs : List AV} {res : AV} (hs : St c I H Γ a w) (hr : fn.results = rs.toArray) (h : ResL P H Γ rs xs) (e : resAV xs = res) : bodyPost P fn (Ret c.I c.W res) .normal a w := by
  subst e
  obtain ⟨v, h1, h2⟩ := hs.retRun hr h
  exact ⟨hs.defers, v, h1, I, hs.step, h2⟩
theorem ResL.nil : ResL P H Γ [] [] := trivial
theorem ResL.cons {r : ResultVar} {rs : List ResultVar} {x : AV} {xs : List AV} (h : ResIs P H Γ r x) (k : ResL P H Γ rs xs) : ResL P H Γ (r :: rs) (x :: xs) := ⟨h, k⟩

/-! ### Function values -/

/-- A function of the text, with what it has captured. -/
def AV.fn (f : FuncId) (caps : List AV) : AV := ⟨fun I v => ∃ cs : Array Value, v = .func (.func f) #[] cs ∧ HoldsA I caps cs.toList, fun _ _ _ hl ⟨cs, e, h⟩ => ⟨cs, e, h.up hl⟩⟩
/-- What calling a function value comes to. -/
def FnV (P : Program) (fv : AV) (args : List AV) (res : AV) : Prop :=
  ∀ (I : Im) (w : World) (v : Value) (vs : Array Value), Models w I → fv.h I v → HoldsA I args vs.toList →
    ∃ f first caps, v = .func (.func f) first caps ∧ Enters P f ∧ Calls P f (first ++ vs ++ caps) w (Ret I w res)
theorem HoldsA.append {I : Im} : ∀ {l m : List AV} {cs ds : List Value}, HoldsA I l cs → HoldsA I m ds → HoldsA I (l ++ m) (cs ++ ds)
  | [], m, [], ds, _, k => by simpa using k
  | x :: xs, m, c :: cs, ds, h, k => by simpa using ⟨h.1, HoldsA.append h.2 k⟩
  | [], _, _ :: _, _, h, _ => h.elim
  | _ :: _, _, [], _, h, _ => h.elim
theorem Fn.val {f : FuncId} {args caps : List AV} {res : AV} (h : Fn P f (args ++ caps) res) : FnV P (.fn f caps) args res := fun I w v vs hm ⟨cs, e, hc⟩ ha =>
  ⟨f, #[], cs, e, h.1, h.2 I w (#[] ++ vs ++ cs) hm (by simpa using ha.append hc)⟩

section
variable {d : Option Tmp} {y z : Operand} {ty T T' E : TypeId} {p : String} {af : Array Edge} {g : Bool} {gd : Option (Nat × Bool)} {n m : Nat} {zv : Value}
theorem ok_makeFunc {f : FuncId} {ys : Array Operand} {caps : List AV} (h : ∀ I a, EnvOk I a Γ → g = true → HoldsA I caps (ys.map a.eval).toList) : Ok P H Γ g ⟨d, .makeFunc (.func f) #[] ys, ty, p, af, gd⟩ (.fn f caps) :=
  ok_of_run fun _ I a w he _ _ hg => ⟨.func (.func f) #[] (ys.map a.eval), by simp [execOp, Instr.makeFunc], _, rfl, h I a he hg⟩
theorem ok_callV {fv res : AV} {ys : Array Operand} {ts : Array TypeId} {xs : List AV} (hf : FnV P fv xs res) (hy : At Γ g y fv) (h : ∀ I a, EnvOk I a Γ → g = true → HoldsA I xs (ys.map a.eval).toList) : Ok P H Γ g ⟨d, .call ⟨.value y, ys, ts⟩, ty, p, af, gd⟩ res :=
  fun base I a w K Q he hm hw hg k => by
    obtain ⟨f, first, caps, e, hen, hc⟩ := hf I w (a.eval y) (ys.map a.eval) hm (hy I a he hg) (h I a he hg)
    unfold Oper.wp
    have hr : (execOp a.eval (⟨d, .call ⟨.value y, ys, ts⟩, ty, p, af, gd⟩ : Oper)).run P w = .ok (.enter f (first ++ ys.map a.eval ++ caps)) w := by
      simp only [execOp, resolve, Deferred.ofValue, e, Sem.run_bind, Sem.run_pure, Result.andThen_ok, invoke, hen _ w]
    rw [hr, Oper.upon_enter]
    refine Calls.mono hc fun e w' he => ?_
    cases e with
    | returned v => obtain ⟨I', hs, hx⟩ := he; exact k v I' w' hx hs
    | panicked _ => exact he.elim
    | outgrown => exact he.elim
end

/-! ### Slices of data -/
section
variable {α : Type} [Inhabited α]
/-- The element at a place. -/
def elt (l : List α) (i : Nat) : α := l.getD i default
theorem elt_get {l : List α} {i : Nat} (h : i < l.length) : l[i]? = some (elt l i) := by simp [elt, h]
theorem nth_map' (f : α → List AV) {l : List α} {i : Nat} (h : i < l.length) : nth (l.map f) i = f (elt l i) := by simp [nth, elt, List.getD, h]
theorem drop_elt {l : List α} {i : Nat} (h : i < l.length) : l.drop i = elt l i :: l.drop (i + 1) := by
  rw [List.drop_eq_getElem_cons h]; simp [elt, h]
theorem take_elt {l : List α} {i : Nat} (h : i < l.length) : l.take (i + 1) = l.take i ++ [elt l i] := by
  rw [List.take_succ_eq_append_getElem h]; simp [elt, h]

theorem ok_idxM {d : Option Tmp} {y z : Operand} {ty T E : TypeId} {p : String} {af : Array Edge} {g : Bool} {gd : Option (Nat × Bool)} {m : Nat} {zv : Value} {s : Nat} {ag : Bool} {f : α → List AV} {l : List α} {i : Int}
    (hT : P.underlying T = some (.slice E)) (hE : Ty P E ag s m zv) (h : At Γ g y (.rows s (l.map f))) (hi : At Γ g z (.int i)) (hb : g = true → 0 ≤ i ∧ i < l.length) :
    Ok P H Γ g ⟨d, .indexAddr T y z, ty, p, af, gd⟩ (.ptr (f (elt l i.toNat))) :=
  ok_of_run fun base I a w he hm hw hg => by
    obtain ⟨h0, h1⟩ := hb hg
    have e2 : a.eval z = _ := hi I a he hg
    obtain ⟨b, off, cap, e, k⟩ := rows_at (h I a he hg) (i := i.toNat) (by rw [List.length_map]; omega)
    rw [nth_map' f (by omega)] at k
    refine ⟨_, ?_, _, rfl, k⟩
    have hs : (sizeOf E).run P w = .ok s w := hE.size
    have h1' : i < ((l.map f).length : Int) := by rw [List.length_map]; exact h1
    simp only [execOp, e, e2, Instr.indexAt, asIntOf, Sem.run_bind, Sem.run_pure, Result.andThen_ok, run_underlying hT]
    rw [List.length_map] at *
    simp [h0, h1, add_plain, hs]
end

theorem ok_idxN {α : Type} [Inhabited α] {d : Option Tmp} {y z : Operand} {ty T E : TypeId} {p : String} {af : Array Edge} {g : Bool} {gd : Option (Nat × Bool)} {m : Nat} {zv : Value} {s : Nat} {ag : Bool} {f : α → List AV} {l : List α} {i : Nat}
    (hT : P.underlying T = some (.slice E)) (hE : Ty P E ag s m zv) (h : At Γ g y (.rows s (l.map f))) (hi : At Γ g z (.int (i : Int))) (hb : g = true → i < l.length) :
    Ok P H Γ g ⟨d, .indexAddr T y z, ty, p, af, gd⟩ (.ptr (f (elt l i))) :=
  ok_idxM hT hE h hi fun e => ⟨by omega, by have := hb e; omega⟩
theorem ok_lenM {α : Type} {d : Option Tmp} {y : Operand} {ty T E : TypeId} {p : String} {af : Array Edge} {g : Bool} {gd : Option (Nat × Bool)} {s : Nat} {f : α → List AV} {l : List α} (hT : P.underlying T = some (.slice E)) (h : At Γ g y (.rows s (l.map f))) :
    Ok P H Γ g ⟨d, .call ⟨.builtin .len, #[y], #[T]⟩, ty, p, af, gd⟩ (.int l.length) := by
  have := ok_len (H := H) (d := d) (ty := ty) (p := p) (af := af) (gd := gd) hT h
  rwa [List.length_map] at this

/-- A length fits. -/
theorem rows_le {α : Type} {s : Nat} {f : α → List AV} {l : List α} {v : Value} (h : (AV.rows s (l.map f)).h I v) : l.length ≤ 9223372036854775807 := by
  obtain ⟨_, cap, _, h1, h2, _⟩ := h
  rw [List.length_map] at h1
  simp only [maxLen] at h2; omega
theorem St.lenle {t s : Nat} {l : List (List AV)} (hs : St c I H Γ a w) (ht : Env.get t Γ = some (.rows s l)) : l.length ≤ 9223372036854775807 := by
  obtain ⟨_, cap, _, h1, h2, _⟩ := hs.env t _ ht
  simp only [maxLen] at h2; omega
theorem St.lenleM {α : Type} {t s : Nat} {f : α → List AV} {l : List α} (hs : St c I H Γ a w) (ht : Env.get t Γ = some (.rows s (l.map f))) : l.length ≤ 9223372036854775807 := by
  have := hs.lenle ht; rwa [List.length_map] at this

theorem ret_bool {b b' : Bool} (h : b = b') : resAV [AV.bool b] = AV.bool b' := by rw [h]; rfl
theorem ret_int {b b' : Int} (h : b = b') : resAV [AV.int b] = AV.int b' := by rw [h]; rfl
theorem ret_av {x y : AV} (h : x = y) : resAV [x] = y := by rw [h]; rfl
theorem ret_tup2 {x y x' y' : AV} (h : x = x') (k : y = y') : resAV [x, y] = AV.tup [x', y'] := by rw [h, k]; rfl

section
variable {ops : Array Oper} {rest : List Oper} {d : Nat} {y z : Operand} {ty T T' E : TypeId} {p : String} {af : Array Edge} {g : Bool} {gd : Option (Nat × Bool)} {n m : Nat} {zv : Value}
theorem ok_nilV {d : Option Tmp} {q : Addr} (h : At Γ g y (.val (.pointer (some q)))) : Ok P H Γ g ⟨d, .nilCheck y, ty, p, af, gd⟩ (.val (.pointer (some q))) :=
  ok_val fun I a w he hg => by
    have e : a.eval y = _ := h I a he hg
    simp only [execOp, e, Sem.run_bind, Sem.run_pure, Result.andThen_ok]
theorem ok_nilPtr {d : Option Tmp} {l : List AV} (h : At Γ g y (.ptr l)) : Ok P H Γ g ⟨d, .nilCheck y, ty, p, af, gd⟩ (.ptr l) :=
  ok_of_run fun _ I a w he _ _ hg => by
    obtain ⟨q, e, k⟩ := h I a he hg
    refine ⟨_, ?_, q, rfl, k⟩
    simp only [execOp, e, Sem.run_bind, Sem.run_pure, Result.andThen_ok]

/-- The empty literal, to be appended to. -/
theorem St.lit0 {sz : Nat} {ag : Bool} (hs : St c I H Γ a w) (hd : Nat.blt d c.n = true) (hT : P.underlying T = some (.slice E)) (hE : Ty P E ag sz m zv) (hsz : 0 < sz)
    (k : ∀ b I a' w', St c I (H ++ [Own.row (.slice (some ⟨b, 0, none⟩) 0 0) E sz []]) ((d, .val (.slice (some ⟨b, 0, none⟩) 0 0)) :: Γ) a' w' → wpList P ops Q rest a' w') :
    wpList P ops Q (⟨some d, .buildSlice T 0 #[], ty, p, af, none⟩ :: rest) a w := by
  have hs1 : (sizeOf E).run P w = .ok sz w := hE.size
  refine wpList_here rfl ?_
  have hr : (Instr.buildSlice T 0 ((#[] : Array (Nat × Operand)).map fun (i, x) => (i, a.eval x))).run P w = .ok (.slice (some ⟨w.heap.size, 0, none⟩) 0 0) (w.alloc (.cells #[] E)) := by
    simp only [Instr.buildSlice, Sem.run_bind, run_underlying hT, Result.andThen_ok, hs1]
    have e0 : Array.range 0 = #[] := rfl
    simp [Instr.fill, run_newRow, e0]
  unfold Oper.wp
  simp only [execOp, Sem.run_bind, hr, Result.andThen_ok, Sem.run_pure, Oper.upon_value]
  have s1 := Step.alloc hs.step.models (.cells #[] E)
  exact k w.heap.size I _ _ (St.own0 (hs.put0 (hs.step.trans s1) (Im.le_refl _) (hs.own.step s1) hd rfl) E (.inr ⟨⟨w.heap.size, 0, none⟩, rfl, rfl⟩))

/-- Stores into an element of an owned slice. -/
theorem St.storeR1 {b cap q sz i j : Nat} {l : List (List AV)} {r : List AV} {x : AV} (k : Nat) (hs : St c I H Γ a w) (hT : Ty P T false 1 m zv) (hy : At Γ true y (.val (.pointer (some ⟨b, q, none⟩)))) (hz : At Γ true z x) (hx : x.One)
    (hk : H[k]? = some (Own.row (.slice (some ⟨b, 0, none⟩) l.length cap) E sz l)) (hr : l[i]? = some r) (hq : q = i * sz + j) (hj : Nat.ble (j + 1) sz = true)
    (kk : ∀ a' w', St c I (H.set k (Own.row (.slice (some ⟨b, 0, none⟩) l.length cap) E sz (l.set i (seg r j [x])))) Γ a' w' → wpList P ops Q rest a' w') :
    wpList P ops Q (⟨none, .store T y z, ty, p, af, none⟩ :: rest) a w := by
  have hv := hz I a hs.env rfl
  have hc := cells_one (hx _ _ hv)
  obtain ⟨w', hrun, hs'⟩ := hs.storeRow (q := q) (lx := [x]) (v := a.eval z) k hT hk (by rw [hc]; exact ⟨⟨hv, hx _ _ hv⟩, trivial⟩) rfl hr hq (Nat.le_of_ble_eq_true hj)
  exact wpList_here rfl (store_upon (hy I a hs.env rfl) rfl hrun (kk _ _ hs'))
theorem St.storeRS {b cap q sz i : Nat} {l : List (List AV)} {r lx : List AV} (k : Nat) (hs : St c I H Γ a w) (hT : Ty P T true sz m zv) (hy : At Γ true y (.val (.pointer (some ⟨b, q, none⟩)))) (hz : At Γ true z (.agg lx))
    (hk : H[k]? = some (Own.row (.slice (some ⟨b, 0, none⟩) l.length cap) E sz l)) (hr : l[i]? = some r) (hq : q = i * sz) (hn : lx.length = sz)
    (kk : ∀ a' w', St c I (H.set k (Own.row (.slice (some ⟨b, 0, none⟩) l.length cap) E sz (l.set i lx))) Γ a' w' → wpList P ops Q rest a' w') :
    wpList P ops Q (⟨none, .store T y z, ty, p, af, none⟩ :: rest) a w := by
  obtain ⟨cs, hv, hl⟩ := hz I a hs.env rfl
  obtain ⟨w', hrun, hs'⟩ := hs.storeRow (q := q) (lx := lx) (j := 0) (v := a.eval z) k hT hk (by rw [hv]; exact hl) hn hr (by rw [hq]; rfl) (by omega)
  refine wpList_here rfl (store_upon (hy I a hs.env rfl) rfl hrun (kk _ _ ?_))
  have hsz : r.length = sz := ((hs.own.all _ (List.mem_of_getElem? hk)).1.1) r (List.mem_of_getElem? hr)
  have e : seg r 0 lx = lx := by simp [seg]; omega
  rwa [e] at hs'
end
end
end Go.Proofs.YtlppgilifnkapaaGreat
