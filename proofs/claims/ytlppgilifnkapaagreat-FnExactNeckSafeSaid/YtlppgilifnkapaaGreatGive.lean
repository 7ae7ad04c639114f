/- Calls that hand over what they own, and calls that write what their caller owns. -/
import Derived.Test.YtlppgilifnkapaaGreatIns
set_option linter.unusedVariables false
set_option linter.unusedSimpArgs false
namespace Go.Proofs.YtlppgilifnkapaaGreat
open Go Go.RowKit

theorem calls_intro {P : Program} {f : FuncId} {fn : Func} {code : Code} {args : List AV} {R : Ending → World → Prop} (N : Nat) (hf : P.funcs[f]? = some fn) (hb : fn.body = some code) (hn : fn.ntmps = N) (hN : Nat.ble args.length N = true)
    {W0 : World} {I0 I : Im} {w : World} {vs : Array Value} {h0 : List Own} (hst : Step I0 W0 I w) (hown : OwnsAll W0.heap.size I w h0) (ha : HoldsA I args vs.toList)
    (h : ∀ a : Act, St ⟨W0, I0, N⟩ I h0 (argsEnv 0 args) a w → code.wp P (bodyPost P fn R) a w) : Calls P f vs w R := by
  refine calls_of_wp hf hb ?_
  have hl : vs.size = args.length := by simpa using ha.length
  have hN' : args.length ≤ N := Nat.le_of_ble_eq_true hN
  refine h _ ⟨hst, hown, ?_, ?_, rfl⟩
  · intro t x e
    have := argsEnv_ok args vs.toList [] (List.replicate (fn.ntmps - vs.size) undef) ha t x e
    have heq : (vs ++ Array.replicate (fn.ntmps - vs.size) undef) = ([] ++ vs.toList ++ List.replicate (fn.ntmps - vs.size) undef).toArray := by
      apply Array.toList_inj.1; simp
    rw [heq]; exact this
  · simp [hn, hl]; omega
theorem OwnsAll.only {base : Nat} {I : Im} {w : World} {H : List Own} {x : Own} {k : Nat} (h : OwnsAll base I w H) (hk : H[k]? = some x) : OwnsAll base I w [x] :=
  ⟨fun o ho => by obtain rfl : o = x := by simpa using ho
                  exact h.all _ (List.mem_of_getElem? hk), by
    simp only [List.filterMap_cons, List.filterMap_nil]
    cases x.blk <;> simp⟩
/-- A row, in memory that the caller owns from now on. -/
def RetRow (I0 : Im) (W0 : World) (E : TypeId) (sz : Nat) (l : List (List AV)) : Ending → World → Prop
  | .returned v, w' => ∃ I', Step I0 W0 I' w' ∧ OwnsAll W0.heap.size I' w' [Own.row v E sz l]
  | _, _ => False
def FnO (P : Program) (f : FuncId) (args : List AV) (E : TypeId) (sz : Nat) (l : List (List AV)) : Prop :=
  Enters P f ∧ ∀ (I : Im) (w : World) (vs : Array Value), Models w I → HoldsA I args vs.toList → Calls P f vs w (RetRow I w E sz l)
theorem FnO.intro {P : Program} {f : FuncId} {fn : Func} {code : Code} {args : List AV} {E : TypeId} {sz : Nat} {l : List (List AV)} (N : Nat) (hf : P.funcs[f]? = some fn) (hb : fn.body = some code) (hn : fn.ntmps = N) (hN : Nat.ble args.length N = true) (hname : (fn.name == "runtime.NumGoroutine") = false)
    (h : ∀ (W : World) (I : Im) (a : Act), St ⟨W, I, N⟩ I [] (argsEnv 0 args) a W → code.wp P (bodyPost P fn (RetRow I W E sz l)) a W) : FnO P f args E sz l :=
  ⟨Enters.of hf hb hname, fun I w vs hm ha => calls_intro N hf hb hn hN (Step.refl hm) (OwnsAll.nil _ _ _) ha (h w I)⟩
theorem own_frozen {I0 I : Im} {W0 w : World} {v : Value} {E : TypeId} {sz : Nat} {l : List (List AV)} (hst : Step I0 W0 I w) (ho : OwnsAll W0.heap.size I w [Own.row v E sz l]) : ∃ I', Step I0 W0 I' w ∧ (AV.rows sz l).h I' v := by
  have hs : St ⟨W0, I0, 0⟩ I [Own.row v E sz l] [] { tmps := #[], defers := [] } w := ⟨hst, ho, fun t x e => by simp [Env.get] at e, rfl, rfl⟩
  obtain ⟨I', hs', hv⟩ := hs.freezeRow 0 rfl
  exact ⟨I', hs'.step, hv⟩
/-- The same, where nobody writes it any more. -/
theorem FnO.fn {P : Program} {f : FuncId} {args : List AV} {E : TypeId} {sz : Nat} {l : List (List AV)} (h : FnO P f args E sz l) : Fn P f args (.rows sz l) :=
  ⟨h.1, fun I w vs hm ha => (h.2 I w vs hm ha).mono fun e w' he => by
    cases e with
    | panicked _ => exact he.elim
    | outgrown => exact he.elim
    | returned v =>
      obtain ⟨I', hst, ho⟩ := he
      obtain ⟨I2, hst2, hv⟩ := own_frozen hst ho
      exact ⟨I2, hst2, hv⟩⟩
/-- What a call leaves that writes what its caller owns. -/
def RetM (I0 : Im) (W0 : World) (h1 : List Own) (res : AV) : Ending → World → Prop
  | .returned v, w' => ∃ I', Step I0 W0 I' w' ∧ OwnsAll W0.heap.size I' w' h1 ∧ res.h I' v
  | _, _ => False
def FnM (P : Program) (f : FuncId) (args : List AV) (h0 h1 : List Own) (res : AV) : Prop :=
  Enters P f ∧ ∀ (W0 : World) (I0 I : Im) (w : World) (vs : Array Value), Step I0 W0 I w → OwnsAll W0.heap.size I w h0 → HoldsA I args vs.toList → Calls P f vs w (RetM I0 W0 h1 res)
theorem FnM.intro {P : Program} {f : FuncId} {fn : Func} {code : Code} {args : List AV} {h0 h1 : List Own} {res : AV} (N : Nat) (hf : P.funcs[f]? = some fn) (hb : fn.body = some code) (hn : fn.ntmps = N) (hN : Nat.ble args.length N = true) (hname : (fn.name == "runtime.NumGoroutine") = false)
    (h : ∀ (W0 : World) (I0 I : Im) (a : Act) (w : World), St ⟨W0, I0, N⟩ I h0 (argsEnv 0 args) a w → code.wp P (bodyPost P fn (RetM I0 W0 h1 res)) a w) : FnM P f args h0 h1 res :=
  ⟨Enters.of hf hb hname, fun W0 I0 I w vs hst ho ha => calls_intro N hf hb hn hN hst ho ha fun a => h W0 I0 I a w⟩
section
variable {P : Program} {c : Ctx} {I : Im} {H : List Own} {Γ : Env} {a : Act} {w : World} {Q : Exit → Act → World → Prop} {ops : Array Oper} {rest : List Oper} {d : Nat} {y z : Operand} {ty T E : TypeId} {p : String} {af : Array Edge} {m sz : Nat} {zv : Value} {ys : Array Operand} {ts : Array TypeId} {l l' : List (List AV)}
theorem St.retRow {fn : Func} {v : Value} {r : Nat} (k : Nat) (hs : St c I H Γ a w) (hr : fn.results = #[.tmp r]) (h2 : Env.get r Γ = some (.val v)) (hk : H[k]? = some (Own.row v E sz l)) (hl : l = l') :
    bodyPost P fn (RetRow c.I c.W E sz l') .ret a w := by
  subst hl
  obtain ⟨v', h1, hv⟩ := hs.retRun (P := P) (fn := fn) (rs := [.tmp r]) (xs := [.val v]) hr (.cons (.t h2) .nil)
  obtain rfl : v' = v := hv
  exact ⟨hs.defers, v', h1, I, hs.step, hs.own.only hk⟩
theorem St.retM {fn : Func} {rs : List ResultVar} {xs : List AV} {res : AV} {h1 : List Own} (hs : St c I H Γ a w) (hr : fn.results = rs.toArray) (h : ResL P H Γ rs xs) (hH : H = h1) (e : resAV xs = res) : bodyPost P fn (RetM c.I c.W h1 res) .ret a w := by
  subst e hH
  obtain ⟨v, e1, e2⟩ := hs.retRun hr h
  exact ⟨hs.defers, v, e1, I, hs.step, hs.own, e2⟩
theorem run_callF {f : FuncId} {o : Oper} (hen : Enters P f) (ho : o = ⟨some d, .call ⟨.value (.func f), ys, ts⟩, ty, p, af, none⟩) : (execOp a.eval o).run P w = .ok (.enter f (ys.map a.eval)) w := by
  subst ho
  simp only [execOp, resolve, Act.eval]
  simp [Deferred.ofValue, invoke, hen _ w, Sem.run_bind, Sem.run_pure]
theorem OwnsAll.join {base : Nat} {w' : World} {I' : Im} {x : Own} {base2 : Nat} (h : OwnsAll base I' w' H) (hx : OwnsAll base2 I' w' [x]) (hlt : ∀ o ∈ H, ∀ b, o.blk = some b → b < base2) (hb : base ≤ base2) : OwnsAll base I' w' (H ++ [x]) := by
  refine ⟨fun o hm => ?_, ?_⟩
  · rcases List.mem_append.1 hm with hm | hm
    · exact h.all o hm
    · obtain rfl := List.mem_singleton.1 hm
      obtain ⟨h1, h2⟩ := hx.all _ (List.mem_singleton.2 rfl)
      exact ⟨h1, fun b e => ⟨Nat.le_trans hb (h2 b e).1, (h2 b e).2⟩⟩
  · rw [List.filterMap_append, List.nodup_append]
    refine ⟨h.nodup, hx.nodup, fun b hb1 b' hb' => ?_⟩
    obtain ⟨o, ho, e⟩ := List.mem_filterMap.1 hb1
    obtain ⟨o', ho', e'⟩ := List.mem_filterMap.1 hb'
    obtain rfl := List.mem_singleton.1 ho'
    have h3 := hlt o ho b e
    have h4 := ((hx.all _ (List.mem_singleton.2 rfl)).2 b' e').1
    omega
/-- A call that hands over a row. -/
theorem St.callO {f : FuncId} {xs : List AV} (hs : St c I H Γ a w) (hf : FnO P f xs E sz l) (hargs : ∀ I a, EnvOk I a Γ → true = true → HoldsA I xs (ys.map a.eval).toList) (hd : Nat.blt d c.n = true)
    (k : ∀ I' v a' w', St c I' (H ++ [Own.row v E sz l]) ((d, .val v) :: Γ) a' w' → wpList P ops Q rest a' w') : wpList P ops Q (⟨some d, .call ⟨.value (.func f), ys, ts⟩, ty, p, af, none⟩ :: rest) a w := by
  refine wpList_here rfl ?_
  unfold Oper.wp
  rw [run_callF hf.1 rfl, Oper.upon_enter]
  refine Calls.mono (hf.2 I w _ hs.step.models (hargs I a hs.env rfl)) fun e w' he => ?_
  cases e with
  | panicked _ => exact he.elim
  | outgrown => exact he.elim
  | returned v =>
    obtain ⟨I', hst, ho⟩ := he
    have hput := hs.put (d := d) (x := .val v) (v := v) (by simpa using hd) rfl hst
    exact k I' v _ w' ⟨hput.step, hput.own.join ho (fun o hm b e => ((hs.own.all o hm).2 b e).2.2) hs.step.below.size, hput.env, hput.size, hput.defers⟩
/-- A call that writes what is owned; of what was known nothing is kept. -/
theorem St.callM {f : FuncId} {xs : List AV} {h1 : List Own} {res : AV} (hs : St c I H Γ a w) (hf : FnM P f xs H h1 res) (hargs : ∀ I a, EnvOk I a Γ → true = true → HoldsA I xs (ys.map a.eval).toList) (hd : Nat.blt d c.n = true)
    (k : ∀ I' a' w', St c I' h1 [(d, res)] a' w' → wpList P ops Q rest a' w') : wpList P ops Q (⟨some d, .call ⟨.value (.func f), ys, ts⟩, ty, p, af, none⟩ :: rest) a w := by
  refine wpList_here rfl ?_
  unfold Oper.wp
  rw [run_callF hf.1 rfl, Oper.upon_enter]
  refine Calls.mono (hf.2 c.W c.I I w _ hs.step hs.own (hargs I a hs.env rfl)) fun e w' he => ?_
  cases e with
  | panicked _ => exact he.elim
  | outgrown => exact he.elim
  | returned v =>
    obtain ⟨I', hst, ho, hv⟩ := he
    refine k I' _ w' ⟨hst, ho, ?_, by simp [Act.put, hs.size], hs.defers⟩
    exact (EnvOk.put (Γ := []) (fun t x e => by simp [Env.get] at e) (by rw [hs.size]; simpa using hd) hv)
/-- In a region of any order: a call that hands over a row. -/
theorem RunTA.callO {tail : List Oper} {M : Act → List Own} {k : Nat} {os : List Oper} {f : FuncId} {xs : List AV} (hf : FnO P f xs E sz l) (hargs : ∀ I a, EnvOk I a (Γ.only (Oper.looksAt ops ⟨some d, .call ⟨.value (.func f), ys, ts⟩, ty, p, af, none⟩)) → true = true → HoldsA I xs (ys.map a.eval).toList)
    (r : RunTA P c H ops Q tail (fun a => M a ++ [Own.row (a.tmps.getD d undef) E sz l]) (k + 1) ((d, AV.any) :: Γ) os) : RunTA P c H ops Q tail M k Γ (⟨some d, .call ⟨.value (.func f), ys, ts⟩, ty, p, af, none⟩ :: os) := by
  obtain ⟨xs', h1, h2⟩ := r
  refine ⟨(AV.any, some (fun v => Own.row v E sz l)) :: xs', ⟨?_, h1⟩, fun I' a' w' hs => h2 I' a' w' (by simpa [made, runEnv] using hs)⟩
  intro base I a w K Q he hm hw kk
  rw [if_pos (by simp [Region.wanted])]
  unfold Oper.wp
  rw [run_callF hf.1 rfl, Oper.upon_enter]
  refine Calls.mono (hf.2 I w _ hm (hargs I a he rfl)) fun e w' he => ?_
  cases e with
  | panicked _ => exact he.elim
  | outgrown => exact he.elim
  | returned v =>
    obtain ⟨I', hst, ho⟩ := he
    refine kk v I' w' trivial hst fun f hf => ?_
    cases hf
    exact ho.all _ (List.mem_singleton.2 rfl)
theorem St.openRow {d : Nat} (hs : St c I (H ++ ([] ++ [Own.row (a.tmps.getD d undef) E sz l])) Γ a w) : ∃ v, St c I (H ++ [Own.row v E sz l]) ((d, .val v) :: Γ) a w := by
  refine ⟨a.tmps.getD d undef, hs.step, by simpa using hs.own, fun t x e => ?_, hs.size, hs.defers⟩
  simp only [Env.get] at e
  cases hbq : Nat.beq d t with
  | true =>
    rw [hbq] at e; simp only [cond_true] at e; cases e
    obtain rfl : d = t := Nat.eq_of_beq_eq_true hbq
    rfl
  | false => rw [hbq] at e; exact hs.env t x (by simpa using e)
theorem row_form {v : Value} (h : (Own.row v E sz l).ok I w) : ∃ q cap, v = .slice q l.length cap ∧ l.length ≤ cap := by
  obtain ⟨_, ⟨rfl, rfl | ⟨q, rfl, _⟩⟩ | ⟨b, cap, cur, rfl, h0, hb, h3, _⟩⟩ := h
  · exact ⟨none, 0, rfl, Nat.le_refl _⟩
  · exact ⟨some q, 0, rfl, Nat.le_refl _⟩
  · exact ⟨_, cap, rfl, h3⟩
theorem St.rowForm {v : Value} (k : Nat) (hs : St c I H Γ a w) (hk : H[k]? = some (Own.row v E sz l)) : ∃ q cap, v = .slice q l.length cap ∧ l.length ≤ cap := row_form (hs.own.all _ (List.mem_of_getElem? hk)).1
end
/-! ### One element put in: what the copies come to -/
section
variable {α : Type} {A B X R : List α}
theorem drop_app (n : Nat) (h : A.length = n) : (A ++ B).drop n = B := by subst h; exact List.drop_left
theorem take_app (n : Nat) (h : A.length = n) : (A ++ B).take n = A := by subst h; exact List.take_left
theorem over_shift {i j : Nat} (hi : A.length = i) (hj : i + X.length = j) (hR : X.length ≤ R.length) : over (over (A ++ B ++ R) j B) i X = A ++ X ++ B ++ R.drop X.length := by
  have e1 : over (A ++ B ++ R) j B = (A ++ B ++ R).take j ++ B ++ R.drop X.length := by
    unfold over
    congr 1
    rw [List.append_assoc A B R, List.drop_append, List.drop_append]
    have h1 : A.drop (j + B.length) = [] := List.drop_eq_nil_of_le (by omega)
    have h2 : B.drop (j + B.length - A.length) = [] := List.drop_eq_nil_of_le (by omega)
    rw [h1, h2, List.nil_append, List.nil_append]
    congr 1; omega
  have hl : ((A ++ B ++ R).take j).length = j := by simp; omega
  rw [e1]
  unfold over
  have e2 : ((A ++ B ++ R).take j ++ B ++ R.drop X.length).take i = A := by
    rw [List.append_assoc, List.take_append, List.take_take, Nat.min_eq_left (by omega), hl, show i - j = 0 by omega, List.take_zero, List.append_nil, List.append_assoc]
    exact take_app i hi
  have e3 : ((A ++ B ++ R).take j ++ B ++ R.drop X.length).drop (i + X.length) = B ++ R.drop X.length := by
    rw [hj, List.append_assoc]
    exact drop_app j hl
  rw [e2, e3]; simp
theorem over_fill {i j : Nat} (hi : A.length = i) (hj : i + X.length = j) (hR : X.length + B.length ≤ R.length) : over (over (A ++ R) i X) j B = A ++ X ++ B ++ R.drop (X.length + B.length) := by
  have e1 : over (A ++ R) i X = A ++ X ++ R.drop X.length := by
    unfold over
    rw [take_app i hi]
    congr 1
    rw [List.drop_append, List.drop_eq_nil_of_le (by omega), List.nil_append]
    congr 1; omega
  rw [e1]
  unfold over
  have hl : (A ++ X).length = j := by simp; omega
  rw [take_app j hl, List.drop_append, List.drop_eq_nil_of_le (by omega), List.nil_append, List.drop_drop]
  congr 2
  omega
end
end Go.Proofs.YtlppgilifnkapaaGreat
