/- Part 7: rules of the proofs, contracts of functions, plain facts. -/
import Derived.Test.YtkoebplikhlapaaGreatDoorP05
set_option linter.unusedVariables false
set_option linter.unusedSimpArgs false
namespace Go.Proofs.YtkoebplikhlapaaGreatDoor
open Go Go.RowKit
section
variable {P : Program} {c : Ctx} {I : Im} {H : List Own} {Γ : Env} {a : Act} {w : World} {Q : Exit → Act → World → Prop}
def resVal (tmps : Array Value) (r : ResultVar) : Sem Value :=
  match r with
  | .tmp t => pure (tmps.getD t undef)
  | .cell s t => do loadVar t (← asAddr (tmps.getD s undef))
def ResIs (P : Program) (H : List Own) (Γ : Env) (r : ResultVar) (x : AV) : Prop :=
  ∀ (base : Nat → Prop) I a w, EnvOk I a Γ → Models w I → OwnsAll base I w H →
    ∃ v, (resVal a.tmps r).run P w = .ok v w ∧ x.h I v
theorem ResIs.t {t : Nat} {x : AV} (h : Env.get t Γ = some x) : ResIs P H Γ (.tmp t) x := fun _ _ _ _ he _ _ => ⟨_, rfl, he t x h⟩
theorem ResIs.nil {t : Nat} {sz : Nat} (h : Env.get t Γ = some (.val (.slice none 0 0))) : ResIs P H Γ (.tmp t) (.rows sz []) := fun _ I a _ he _ _ => ⟨_, rfl, by
  have e : a.tmps.getD t undef = _ := he t _ h
  rw [e]; exact rows_nil sz I⟩
theorem ResIs.s {s b n m : Nat} {T T' : TypeId} {zv : Value} {l : List AV} (k : Nat) (hT : Ty P T true n m zv) (h : Env.get s Γ = some (.val (.pointer (some ⟨b, 0, none⟩)))) (hk : H[k]? = some (Own.box b T' l)) (hn : l.length = n) : ResIs P H Γ (.cell s T) (.agg l) := fun base I a w he _ hw => by
  have e : a.tmps.getD s undef = _ := he s _ h
  obtain ⟨cs, hb, hl⟩ := (hw.all _ (List.mem_of_getElem? hk)).1
  have hlen := hl.length
  have h3 : ∀ j v, cs.toList[j]? = some v → w.cell? ((⟨b, 0, none⟩ : Addr).add j) = some v := fun j v hv => by
    rw [add_plain]
    simp only [World.cell?, hb, Option.isSome_none, Bool.false_eq_true, if_false]
    simpa using hv
  refine ⟨.agg cs, ?_, cs, rfl, hl⟩
  have := run_load_agg hT (w := w) (p := ⟨b, 0, none⟩) (cs := cs.toList) (by omega) h3
  simp only [resVal, e, asAddr, Sem.run_bind, Sem.run_pure, Result.andThen_ok]
  simpa using this
theorem ResIs.cc {s b m : Nat} {T T' : TypeId} {zv : Value} {x : AV} (k : Nat) (hT : Ty P T false 1 m zv) (h : Env.get s Γ = some (.val (.pointer (some ⟨b, 0, none⟩)))) (hk : H[k]? = some (Own.box b T' [x])) : ResIs P H Γ (.cell s T) x := fun base I a w he _ hw => by
  have e : a.tmps.getD s undef = _ := he s _ h
  obtain ⟨cs, hb, hl⟩ := (hw.all _ (List.mem_of_getElem? hk)).1
  obtain ⟨u, hu, hx, _⟩ := hl.get (i := 0) (x := x) rfl
  have hc : w.cell? ⟨b, 0, none⟩ = some u := by simp only [World.cell?, hb]; simpa using hu
  refine ⟨u, ?_, hx⟩
  simp only [resVal, e, asAddr, Sem.run_bind, Sem.run_pure, Result.andThen_ok, run_load_one hT hc]
def ResL (P : Program) (H : List Own) (Γ : Env) : List ResultVar → List AV → Prop
  | [], [] => True
  | r :: rs, x :: xs => ResIs P H Γ r x ∧ ResL P H Γ rs xs
  | _, _ => False
theorem run_mapM_results {base : Nat → Prop} (he : EnvOk I a Γ) (hm : Models w I) (hw : OwnsAll base I w H) : ∀ {rs : List ResultVar} {xs : List AV}, ResL P H Γ rs xs →
    ∃ vs : List Value, (rs.mapM (resVal a.tmps)).run P w = .ok vs w ∧ HoldsA I xs vs
  | [], [], _ => ⟨[], by simp, trivial⟩
  | r :: rs, x :: xs, ⟨h, k⟩ => by
    obtain ⟨v, h1, h2⟩ := h base I a w he hm hw
    obtain ⟨vs, h3, h4⟩ := run_mapM_results he hm hw k
    refine ⟨v :: vs, ?_, h2, h4⟩
    rw [List.mapM_cons]
    simp only [Sem.run_bind, h1, h3, Result.andThen_ok, Sem.run_pure]
  | [], _ :: _, h => h.elim
  | _ :: _, [], h => h.elim
def resAV : List AV → AV
  | [x] => x
  | l => .tup l
theorem St.retRun {fn : Func} {rs : List ResultVar} {xs : List AV} (hs : St c I H Γ a w) (hr : fn.results = rs.toArray) (h : ResL P H Γ rs xs) : ∃ v, (results fn a.tmps).run P w = .ok v w ∧ (resAV xs).h I v := by
  obtain ⟨vs, h1, h2⟩ := run_mapM_results (P := P) hs.env hs.step.models hs.own h
  have hlen := h2.length
  have e : (results fn a.tmps).run P w = .ok (if h : vs.toArray.size = 1 then vs.toArray[0] else .tuple vs.toArray) w := by
    show (do let vs ← fn.results.mapM (resVal a.tmps); pure (if h : vs.size = 1 then vs[0] else .tuple vs) : Sem Value).run P w = _
    rw [hr, Array.mapM_eq_mapM_toList]
    rw [show ∀ (f : ResultVar → Sem Value), (List.toArray <$> (rs.toArray.toList.mapM f)) = (do let l ← rs.mapM f; pure l.toArray) from fun _ => rfl]
    simp only [Sem.run_bind, h1, Result.andThen_ok, Sem.run_pure]
  refine ⟨_, e, ?_⟩
  match xs, vs, h2 with
  | [], [], _ => exact ⟨#[], rfl, trivial⟩
  | [x], [v], h2 => exact h2.1
  | x :: x' :: xs, v :: v' :: vs, h2 => exact ⟨(v :: v' :: vs).toArray, rfl, h2⟩
theorem St.ret {fn : Func} {rs : List ResultVar} {xs : List AV} {res : AV} (hs : St c I H Γ a w) (hr : fn.results = rs.toArray) (h : ResL P H Γ rs xs) (e : resAV xs = res) : bodyPost P fn (RetF c.F c.I c.W res) .ret a w := by
  subst e
  obtain ⟨v, h1, h2⟩ := hs.retRun hr h
  exact ⟨hs.defers, v, h1, I, hs.step, h2⟩
theorem ResL.nil : ResL P H Γ [] [] := trivial
theorem ResL.cons {r : ResultVar} {rs : List ResultVar} {x : AV} {xs : List AV} (h : ResIs P H Γ r x) (k : ResL P H Γ rs xs) : ResL P H Γ (r :: rs) (x :: xs) := ⟨h, k⟩
def AV.fn (f : FuncId) (caps : List AV) : AV := ⟨fun I v => ∃ cs : Array Value, v = .func (.func f) #[] cs ∧ HoldsA I caps cs.toList, fun _ _ _ hl ⟨cs, e, h⟩ => ⟨cs, e, h.up hl⟩⟩
def FnV (P : Program) (fv : AV) (args : List AV) (res : AV) : Prop :=
  ∀ (I : Im) (w : World) (v : Value) (vs : Array Value), Models w I → fv.h I v → HoldsA I args vs.toList →
    ∃ f first caps, v = .func (.func f) first caps ∧ Enters P f ∧ Calls P f (first ++ vs ++ caps) w (Ret I w res)
theorem HoldsA.append {I : Im} : ∀ {l m : List AV} {cs ds : List Value}, HoldsA I l cs → HoldsA I m ds → HoldsA I (l ++ m) (cs ++ ds)
  | [], m, [], ds, _, k => by simpa using k
  | x :: xs, m, c :: cs, ds, h, k => by simpa using ⟨h.1, HoldsA.append h.2 k⟩
  | [], _, _ :: _, _, h, _ => h.elim
  | _ :: _, _, [], _, h, _ => h.elim
theorem Fn.val {f : FuncId} {args caps : List AV} {res : AV} (h : Fn P f (args ++ caps) res) : FnV P (.fn f caps) args res := fun I w v vs hm ⟨cs, e, hc⟩ ha =>
  ⟨f, #[], cs, e, h.1, h.2 I w (#[] ++ vs ++ cs) hm (by simpa using ha.append hc)⟩
section
variable {d : Option Tmp} {y z : Operand} {ty T T' E : TypeId} {p : String} {af : Array Edge} {g : Bool} {gd : Option (Nat × Bool)} {n m : Nat} {zv : Value}
theorem ok_callV {fv res : AV} {ys : Array Operand} {ts : Array TypeId} {xs : List AV} (hf : FnV P fv xs res) (hy : At Γ g y fv) (h : ∀ I a, EnvOk I a Γ → g = true → HoldsA I xs (ys.map a.eval).toList) : Ok P H Γ g ⟨d, .call ⟨.value y, ys, ts⟩, ty, p, af, gd⟩ res :=
  fun base I a w K Q he hm hw hg k => by
    obtain ⟨f, first, caps, e, hen, hc⟩ := hf I w (a.eval y) (ys.map a.eval) hm (hy I a he hg) (h I a he hg)
    unfold Oper.wp
    have hr : (execOp a.eval (⟨d, .call ⟨.value y, ys, ts⟩, ty, p, af, gd⟩ : Oper)).run P w = .ok (.enter f (first ++ ys.map a.eval ++ caps)) w := by
      simp only [execOp, resolve, Deferred.ofValue, e, Sem.run_bind, Sem.run_pure, Result.andThen_ok, invoke, hen _ w]
    rw [hr, Oper.upon_enter]
    refine Calls.mono hc fun e w' he => ?_
    cases e with
    | returned v => obtain ⟨I', hs, hx⟩ := he; exact k v I' w' hx hs
    | panicked _ => exact he.elim
    | outgrown => exact he.elim
end
section
variable {α : Type} [Inhabited α]
def elt (l : List α) (i : Nat) : α := l.getD i default
theorem elt_get {l : List α} {i : Nat} (h : i < l.length) : l[i]? = some (elt l i) := by simp [elt, h]
theorem nth_map' (f : α → List AV) {l : List α} {i : Nat} (h : i < l.length) : nth (l.map f) i = f (elt l i) := by simp [nth, elt, List.getD, h]
theorem drop_elt {l : List α} {i : Nat} (h : i < l.length) : l.drop i = elt l i :: l.drop (i + 1) := by
  rw [List.drop_eq_getElem_cons h]; simp [elt, h]
theorem take_elt {l : List α} {i : Nat} (h : i < l.length) : l.take (i + 1) = l.take i ++ [elt l i] := by
  rw [List.take_succ_eq_append_getElem h]; simp [elt, h]
theorem ok_idxM {d : Option Tmp} {y z : Operand} {ty T E : TypeId} {p : String} {af : Array Edge} {g : Bool} {gd : Option (Nat × Bool)} {m : Nat} {zv : Value} {s : Nat} {ag : Bool} {f : α → List AV} {l : List α} {i : Int}
    (hT : P.underlying T = some (.slice E)) (hE : Ty P E ag s m zv) (h : At Γ g y (.rows s (l.map f))) (hi : At Γ g z (.int i)) (hb : g = true → 0 ≤ i ∧ i < l.length) :
    Ok P H Γ g ⟨d, .indexAddr T y z, ty, p, af, gd⟩ (.ptr (f (elt l i.toNat))) :=
  ok_of_run fun base I a w he hm hw hg => by
    obtain ⟨h0, h1⟩ := hb hg
    have e2 : a.eval z = _ := hi I a he hg
    obtain ⟨b, off, cap, e, k⟩ := rows_at (h I a he hg) (i := i.toNat) (by rw [List.length_map]; omega)
    rw [nth_map' f (by omega)] at k
    refine ⟨_, ?_, _, rfl, k⟩
    have hs : (sizeOf E).run P w = .ok s w := hE.size
    have h1' : i < ((l.map f).length : Int) := by rw [List.length_map]; exact h1
    simp only [execOp, e, e2, Instr.indexAt, asIntOf, Sem.run_bind, Sem.run_pure, Result.andThen_ok, run_underlying hT]
    rw [List.length_map] at *
    simp [h0, h1, add_plain, hs]
end
theorem ok_idxN {α : Type} [Inhabited α] {d : Option Tmp} {y z : Operand} {ty T E : TypeId} {p : String} {af : Array Edge} {g : Bool} {gd : Option (Nat × Bool)} {m : Nat} {zv : Value} {s : Nat} {ag : Bool} {f : α → List AV} {l : List α} {i : Nat}
    (hT : P.underlying T = some (.slice E)) (hE : Ty P E ag s m zv) (h : At Γ g y (.rows s (l.map f))) (hi : At Γ g z (.int (i : Int))) (hb : g = true → i < l.length) :
    Ok P H Γ g ⟨d, .indexAddr T y z, ty, p, af, gd⟩ (.ptr (f (elt l i))) :=
  ok_idxM hT hE h hi fun e => ⟨by omega, by have := hb e; omega⟩
theorem ok_lenM {α : Type} {d : Option Tmp} {y : Operand} {ty T E : TypeId} {p : String} {af : Array Edge} {g : Bool} {gd : Option (Nat × Bool)} {s : Nat} {f : α → List AV} {l : List α} (hT : P.underlying T = some (.slice E)) (h : At Γ g y (.rows s (l.map f))) :
    Ok P H Γ g ⟨d, .call ⟨.builtin .len, #[y], #[T]⟩, ty, p, af, gd⟩ (.int l.length) := by
  have := ok_len (H := H) (d := d) (ty := ty) (p := p) (af := af) (gd := gd) hT h
  rwa [List.length_map] at this
theorem rows_le {α : Type} {s : Nat} {f : α → List AV} {l : List α} {v : Value} (h : (AV.rows s (l.map f)).h I v) : l.length ≤ 9223372036854775807 := by
  obtain ⟨_, cap, _, h1, h2, _⟩ := h
  rw [List.length_map] at h1
  simp only [maxLen] at h2; omega
theorem St.lenle {t s : Nat} {l : List (List AV)} (hs : St c I H Γ a w) (ht : Env.get t Γ = some (.rows s l)) : l.length ≤ 9223372036854775807 := by
  obtain ⟨_, cap, _, h1, h2, _⟩ := hs.env t _ ht
  simp only [maxLen] at h2; omega
theorem St.lenleM {α : Type} {t s : Nat} {f : α → List AV} {l : List α} (hs : St c I H Γ a w) (ht : Env.get t Γ = some (.rows s (l.map f))) : l.length ≤ 9223372036854775807 := by
  have := hs.lenle ht; rwa [List.length_map] at this
theorem ret_bool {b b' : Bool} (h : b = b') : resAV [AV.bool b] = AV.bool b' := by rw [h]; rfl
theorem ret_int {b b' : Int} (h : b = b') : resAV [AV.int b] = AV.int b' := by rw [h]; rfl
theorem ret_av {x y : AV} (h : x = y) : resAV [x] = y := by rw [h]; rfl
theorem ret_tup2 {x y x' y' : AV} (h : x = x') (k : y = y') : resAV [x, y] = AV.tup [x', y'] := by rw [h, k]; rfl
section
variable {ops : Array Oper} {rest : List Oper} {d : Nat} {y z : Operand} {ty T T' E : TypeId} {p : String} {af : Array Edge} {g : Bool} {gd : Option (Nat × Bool)} {n m : Nat} {zv : Value}
theorem ok_nilV {d : Option Tmp} {q : Addr} (h : At Γ g y (.val (.pointer (some q)))) : Ok P H Γ g ⟨d, .nilCheck y, ty, p, af, gd⟩ (.val (.pointer (some q))) :=
  ok_val fun I a w he hg => by
    have e : a.eval y = _ := h I a he hg
    simp only [execOp, e, Sem.run_bind, Sem.run_pure, Result.andThen_ok]
theorem ok_nilPtr {d : Option Tmp} {l : List AV} (h : At Γ g y (.ptr l)) : Ok P H Γ g ⟨d, .nilCheck y, ty, p, af, gd⟩ (.ptr l) :=
  ok_of_run fun _ I a w he _ _ hg => by
    obtain ⟨q, e, k⟩ := h I a he hg
    refine ⟨_, ?_, q, rfl, k⟩
    simp only [execOp, e, Sem.run_bind, Sem.run_pure, Result.andThen_ok]
theorem St.lit0 {sz : Nat} {ag : Bool} (hs : St c I H Γ a w) (hd : Nat.blt d c.n = true) (hT : P.underlying T = some (.slice E)) (hE : Ty P E ag sz m zv) (hsz : 0 < sz)
    (k : ∀ b I a' w', St c I (H ++ [Own.row (.slice (some ⟨b, 0, none⟩) 0 0) E sz []]) ((d, .val (.slice (some ⟨b, 0, none⟩) 0 0)) :: Γ) a' w' → wpList P ops Q rest a' w') :
    wpList P ops Q (⟨some d, .buildSlice T 0 #[], ty, p, af, none⟩ :: rest) a w := by
  have hs1 : (sizeOf E).run P w = .ok sz w := hE.size
  refine wpList_here rfl ?_
  have hr : (Instr.buildSlice T 0 ((#[] : Array (Nat × Operand)).map fun (i, x) => (i, a.eval x))).run P w = .ok (.slice (some ⟨w.heap.size, 0, none⟩) 0 0) (w.alloc (.cells #[] E)) := by
    simp only [Instr.buildSlice, Sem.run_bind, run_underlying hT, Result.andThen_ok, hs1]
    have e0 : Array.range 0 = #[] := rfl
    simp [Instr.fill, run_newRow, e0]
  unfold Oper.wp
  simp only [execOp, Sem.run_bind, hr, Result.andThen_ok, Sem.run_pure, Oper.upon_value]
  have s1 := Step.alloc hs.step.models (.cells #[] E)
  exact k w.heap.size I _ _ (St.own0 (hs.put0 (hs.step.trans s1) (Im.le_refl _) (hs.own.step s1) hd rfl) E (.inr ⟨⟨w.heap.size, 0, none⟩, rfl, rfl⟩))
theorem St.storeR1 {b cap q sz i j : Nat} {l : List (List AV)} {r : List AV} {x : AV} (k : Nat) (hs : St c I H Γ a w) (hT : Ty P T false 1 m zv) (hy : At Γ true y (.val (.pointer (some ⟨b, q, none⟩)))) (hz : At Γ true z x) (hx : x.One)
    (hk : H[k]? = some (Own.row (.slice (some ⟨b, 0, none⟩) l.length cap) E sz l)) (hr : l[i]? = some r) (hq : q = i * sz + j) (hj : Nat.ble (j + 1) sz = true)
    (kk : ∀ a' w', St c I (H.set k (Own.row (.slice (some ⟨b, 0, none⟩) l.length cap) E sz (l.set i (seg r j [x])))) Γ a' w' → wpList P ops Q rest a' w') :
    wpList P ops Q (⟨none, .store T y z, ty, p, af, none⟩ :: rest) a w := by
  have hv := hz I a hs.env rfl
  have hc := cells_one (hx _ _ hv)
  obtain ⟨w', hrun, hs'⟩ := hs.storeRow (q := q) (lx := [x]) (v := a.eval z) k hT hk (by rw [hc]; exact ⟨⟨hv, hx _ _ hv⟩, trivial⟩) rfl hr hq (Nat.le_of_ble_eq_true hj)
  exact wpList_here rfl (store_upon (hy I a hs.env rfl) rfl hrun (kk _ _ hs'))
theorem St.storeRS {b cap q sz i : Nat} {l : List (List AV)} {r lx : List AV} (k : Nat) (hs : St c I H Γ a w) (hT : Ty P T true sz m zv) (hy : At Γ true y (.val (.pointer (some ⟨b, q, none⟩)))) (hz : At Γ true z (.agg lx))
    (hk : H[k]? = some (Own.row (.slice (some ⟨b, 0, none⟩) l.length cap) E sz l)) (hr : l[i]? = some r) (hq : q = i * sz) (hn : lx.length = sz)
    (kk : ∀ a' w', St c I (H.set k (Own.row (.slice (some ⟨b, 0, none⟩) l.length cap) E sz (l.set i lx))) Γ a' w' → wpList P ops Q rest a' w') :
    wpList P ops Q (⟨none, .store T y z, ty, p, af, none⟩ :: rest) a w := by
  obtain ⟨cs, hv, hl⟩ := hz I a hs.env rfl
  obtain ⟨w', hrun, hs'⟩ := hs.storeRow (q := q) (lx := lx) (j := 0) (v := a.eval z) k hT hk (by rw [hv]; exact hl) hn hr (by rw [hq]; rfl) (by omega)
  refine wpList_here rfl (store_upon (hy I a hs.env rfl) rfl hrun (kk _ _ ?_))
  have hsz : r.length = sz := ((hs.own.all _ (List.mem_of_getElem? hk)).1.1) r (List.mem_of_getElem? hr)
  have e : seg r 0 lx = lx := by simp [seg]; omega
  rwa [e] at hs'
end
end
structure Stamp where
  time : Int
  site : Int
deriving DecidableEq, Inhabited
structure Dep where
  key : Int
  stamp : Stamp
deriving DecidableEq, Inhabited
structure Ver where
  key : Int
  stamp : Stamp
  val : Int
  client : Int
  call : Int
  deps : List Dep
deriving DecidableEq, Inhabited
structure Word where
  kind : Int
  frm : Int
  to : Int
  call : Int
  key : Int
  stamp : Stamp
  val : Int
  yes : Bool
  deps : List Dep
  slot : Int
  epoch : Int
  vers : List Ver
  waits : List Ver
  owes : List Dep
deriving DecidableEq, Inhabited
structure Slot where
  epoch : Int
  stand : Int
deriving DecidableEq, Inhabited
structure Server where
  site : Int
  up : Bool
  slots : List Slot
  vers : List Ver
  waits : List Ver
  owes : List Dep
  knows : List Dep
deriving DecidableEq, Inhabited
structure Answer where
  key : Int
  yes : Bool
  ver : Ver
deriving DecidableEq, Inhabited
structure Call where
  client : Int
  num : Int
  kind : Int
  keys : List Int
  val : Int
  ctx : List Dep
  begin_ : Int
  end_ : Int
  over : Bool
  stamp : Stamp
  got : List Answer
  needs : List Dep
deriving DecidableEq, Inhabited
structure Neck where
  time : Int
  servers : List Server
  radio : List Word
  calls : List Call
  seen : List (List Dep)
deriving DecidableEq, Inhabited
structure Ev where
  kind : Int
  at_ : Int
  client : Int
  word : Int
  keep : Int
  slot : Int
  call : Int
  a : Int
  b : Int
  c : Int
  val : Int
deriving DecidableEq, Inhabited
def Stamp.cells (s : Stamp) : List AV := [.int s.time, .int s.site]
def Dep.cells (d : Dep) : List AV := [.int d.key, .int d.stamp.time, .int d.stamp.site]
def depsAV (l : List Dep) : AV := .rows 3 (l.map Dep.cells)
def Ver.cells (v : Ver) : List AV := [.int v.key, .int v.stamp.time, .int v.stamp.site, .int v.val, .int v.client, .int v.call, depsAV v.deps]
def versAV (l : List Ver) : AV := .rows 7 (l.map Ver.cells)
def Word.cells (w : Word) : List AV := [.int w.kind, .int w.frm, .int w.to, .int w.call, .int w.key, .int w.stamp.time, .int w.stamp.site, .int w.val, .bool w.yes, depsAV w.deps, .int w.slot, .int w.epoch, versAV w.vers, versAV w.waits, depsAV w.owes]
def wordsAV (l : List Word) : AV := .rows 15 (l.map Word.cells)
def Slot.cells (s : Slot) : List AV := [.int s.epoch, .int s.stand]
def slotsAV (l : List Slot) : AV := .rows 2 (l.map Slot.cells)
def Server.cells (s : Server) : List AV := [.int s.site, .bool s.up, slotsAV s.slots, versAV s.vers, versAV s.waits, depsAV s.owes, depsAV s.knows]
def serversAV (l : List Server) : AV := .rows 7 (l.map Server.cells)
def Answer.cells (a : Answer) : List AV := [.int a.key, .bool a.yes, .int a.ver.key, .int a.ver.stamp.time, .int a.ver.stamp.site, .int a.ver.val, .int a.ver.client, .int a.ver.call, depsAV a.ver.deps]
def answersAV (l : List Answer) : AV := .rows 9 (l.map Answer.cells)
def intCell (k : Int) : List AV := [.int k]
def intsAV (l : List Int) : AV := .rows 1 (l.map intCell)
def Call.cells (c : Call) : List AV := [.int c.client, .int c.num, .int c.kind, intsAV c.keys, .int c.val, depsAV c.ctx, .int c.begin_, .int c.end_, .bool c.over, .int c.stamp.time, .int c.stamp.site, answersAV c.got, depsAV c.needs]
def callsAV (l : List Call) : AV := .rows 13 (l.map Call.cells)
def depsCell (l : List Dep) : List AV := [depsAV l]
def seenAV (l : List (List Dep)) : AV := .rows 1 (l.map depsCell)
def Neck.cells (w : Neck) : List AV := [.int w.time, serversAV w.servers, wordsAV w.radio, callsAV w.calls, seenAV w.seen]
def Ev.cells (e : Ev) : List AV := [.int e.kind, .int e.at_, .int e.client, .int e.word, .int e.keep, .int e.slot, .int e.call, .int e.a, .int e.b, .int e.c, .int e.val]
def evsAV (l : List Ev) : AV := .rows 11 (l.map Ev.cells)
def Stamp.av (s : Stamp) : AV := .agg s.cells
def Dep.av (s : Dep) : AV := .agg s.cells
def Ver.av (s : Ver) : AV := .agg s.cells
def Word.av (s : Word) : AV := .agg s.cells
def Slot.av (s : Slot) : AV := .agg s.cells
def Server.av (s : Server) : AV := .agg s.cells
def Answer.av (s : Answer) : AV := .agg s.cells
def Call.av (s : Call) : AV := .agg s.cells
def Neck.av (s : Neck) : AV := .agg s.cells
def Ev.av (s : Ev) : AV := .agg s.cells
end Go.Proofs.YtkoebplikhlapaaGreatDoor
set_option linter.unusedVariables false
set_option linter.unusedSimpArgs false
namespace Go.Proofs.YtkoebplikhlapaaGreatDoor
def i64r (n : Int) : Prop := -9223372036854775808 ≤ n ∧ n ≤ 9223372036854775807
def inB (n low high : Int) : Bool := decide (low ≤ n) && decide (n ≤ high)
def siteB (n : Int) : Bool := inB n 0 3
def keyB (n : Int) : Bool := inB n 0 5
def clientB (n : Int) : Bool := inB n 0 1
def stampOk (s : Stamp) : Bool := inB s.time 1 9999 && siteB s.site
def stampLess (a b : Stamp) : Bool := decide (a.time < b.time) || (a.time == b.time && decide (a.site < b.site))
def stampNone (s : Stamp) : Bool := s.time == 0 && s.site == 0
def stampFits (s : Stamp) : Bool := stampNone s || stampOk s
def siteSide (n : Int) : Int := if siteB n then n / 2 else -1
def depLess (a b : Dep) : Bool := decide (a.key < b.key) || (a.key == b.key && stampLess a.stamp b.stamp)
def depsFrom (last : Int) : List Dep → Bool
  | [] => true
  | d :: r => inB d.key (last + 1) 5 && stampOk d.stamp && depsFrom d.key r
def depsOk (l : List Dep) : Bool := depsFrom (-1) l
def allN (n : Nat) (f : Nat → Bool) : Bool := decide (∀ i, i < n → f i = true)
theorem allN_true {n k : Nat} {f : Nat → Bool} (h : ∀ i, i < k → f i = true) (hk : n ≤ k) : allN n f = true := by
  simp only [allN, decide_eq_true_eq]; exact fun i hi => h i (by omega)
theorem allN_false {n k : Nat} {f : Nat → Bool} (hk : k < n) (h : f k = false) : allN n f = false := by
  simp only [allN, decide_eq_false_iff_not]; exact fun hh => by rw [hh k hk] at h; cases h
theorem allN_next {k : Nat} {f : Nat → Bool} (h : ∀ i, i < k → f i = true) (hf : f k = true) : ∀ i, i < k + 1 → f i = true := fun i hi => by
  by_cases e : i = k
  · subst e; exact hf
  · exact h i (by omega)
theorem allN_iff {n : Nat} {f : Nat → Bool} : allN n f = true ↔ ∀ i, i < n → f i = true := by simp [allN]
theorem allN_congr {n m : Nat} {f g : Nat → Bool} (hn : n = m) (h : ∀ i, i < n → f i = g i) : allN n f = allN m g := by
  subst hn
  rw [Bool.eq_iff_iff, allN_iff, allN_iff]
  exact ⟨fun k i hi => by rw [← h i hi]; exact k i hi, fun k i hi => by rw [h i hi]; exact k i hi⟩
def linkB {α : Type} [Inhabited α] (good : α → Bool) (less : α → α → Bool) (l : List α) (k : Nat) : Bool := good (elt l k) && (decide (k = 0) || less (elt l (k - 1)) (elt l k))
theorem link_test {α : Type} [Inhabited α] (good : α → Bool) (less : α → α → Bool) (l : List α) (k : Nat) :
    (!good (elt l k) || (decide (0 < (k : Int)) && !less (elt l ((k : Int) - 1).toNat) (elt l k))) = !linkB good less l k := by
  rw [show ((k : Int) - 1).toNat = k - 1 from by omega]
  unfold linkB
  rcases Nat.eq_zero_or_pos k with rfl | h
  · simp
  · have h2 : k ≠ 0 := by omega
    have h3 : 0 < k := h
    simp [h2, h3]
def timesBelow (t : Int) (l : List Dep) : Bool := allN l.length fun i => decide ((elt l i).stamp.time < t)
def verOk (v : Ver) : Bool := keyB v.key && stampOk v.stamp && inB v.val 0 9999 && clientB v.client && inB v.call 1 99 && depsOk v.deps && timesBelow v.stamp.time v.deps
def Ver.dep (v : Ver) : Dep := ⟨v.key, v.stamp⟩
def verLess (a b : Ver) : Bool := depLess a.dep b.dep
def chainOk (l : List Ver) : Bool := decide (l.length ≤ 80) && allN l.length (linkB verOk verLess l)
def debtOk (d : Dep) : Bool := keyB d.key && stampOk d.stamp
def debtsOk (l : List Dep) : Bool := decide (l.length ≤ 80) && allN l.length (linkB debtOk depLess l)
def addressB (n : Int) : Bool := siteB n || inB n 10 11
def wordOk (w : Word) : Bool :=
  inB w.kind 1 10 && addressB w.frm && addressB w.to && inB w.call 0 99 && keyB w.key && stampFits w.stamp && inB w.val 0 9999 && depsOk w.deps && inB w.slot 0 2 && inB w.epoch 0 9999 &&
    chainOk w.vers && chainOk w.waits && debtsOk w.owes
def verSlot (key : Int) : Int := if keyB key then key * 3 / 6 else -1
end Go.Proofs.YtkoebplikhlapaaGreatDoor
