/- Functions, calls, branches, loops, returns, over abstract values. -/
import Derived.Test.YtlppgilifnkapaaGreatMem
import Derived.Deep.LoopGhost
set_option linter.unusedVariables false
set_option linter.unusedSimpArgs false
namespace Go.Proofs.YtlppgilifnkapaaGreat
open Go Go.RowKit

/-- What a call comes to: a value that is 'res', the old memory as it was. -/
def Ret (I : Im) (w : World) (res : AV) : Ending → World → Prop
  | .returned v, w' => ∃ I', Step I w I' w' ∧ res.h I' v
  | _, _ => False

/-- A function of Go's own text: a call enters it. -/
def Enters (P : Program) (f : FuncId) : Prop := ∀ vs w, (callFunc f vs).run P w = .ok (.enter f vs) w
theorem Enters.of {P : Program} {f : FuncId} {fn : Func} {code : Code} (hf : P.funcs[f]? = some fn) (hb : fn.body = some code) (hn : (fn.name == "runtime.NumGoroutine") = false) : Enters P f := fun vs w => by
  have hn2 : ¬ fn.name = "runtime.NumGoroutine" := by simpa using hn
  simp [callFunc, hf, hn2, hb]

/-- The contract of a function that writes nothing that was there. -/
def Fn (P : Program) (f : FuncId) (args : List AV) (res : AV) : Prop :=
  Enters P f ∧ ∀ (I : Im) (w : World) (vs : Array Value), Models w I → HoldsA I args vs.toList → Calls P f vs w (Ret I w res)

def argsEnv (k : Nat) : List AV → Env
  | [] => []
  | x :: r => (k, x) :: argsEnv (k + 1) r

theorem argsEnv_ok {I : Im} : ∀ (l : List AV) (vs : List Value) (pre post : List Value), HoldsA I l vs →
    ∀ t x, Env.get t (argsEnv pre.length l) = some x → x.h I ((pre ++ vs ++ post).toArray.getD t undef)
  | [], _, _, _, _, t, x, e => by simp [argsEnv, Env.get] at e
  | y :: l, [], _, _, h, _, _, _ => h.elim
  | y :: l, v :: vs, pre, post, h, t, x, e => by
    simp only [argsEnv, Env.get] at e
    cases hb : Nat.beq pre.length t with
    | true =>
      rw [hb] at e; simp at e
      obtain rfl : pre.length = t := Nat.eq_of_beq_eq_true hb
      subst e
      simpa using h.1
    | false =>
      rw [hb] at e
      have := argsEnv_ok l vs (pre ++ [v]) post h.2 t x (by simpa using e)
      simpa using this

theorem At.gc {Γ : Env} {g g' b : Bool} {t : Nat} {x : AV} (h : Env.get t Γ = some (AV.cond (g' && b) x)) (hg : g = true → g' = true) : At Γ g (.tmp t) (AV.cond b x) := fun _ _ he e => by
  have := he t _ h
  rw [hg e, Bool.true_and] at this
  exact this

section
variable {P : Program} {c : Ctx} {I : Im} {H : List Own} {Γ : Env} {a : Act} {w : World} {Q : Exit → Act → World → Prop}

theorem Fn.intro {f : FuncId} {fn : Func} {code : Code} {args : List AV} {res : AV} (N : Nat) (hf : P.funcs[f]? = some fn) (hb : fn.body = some code) (hn : fn.ntmps = N) (hN : Nat.ble args.length N = true) (hname : (fn.name == "runtime.NumGoroutine") = false)
    (h : ∀ (W : World) (I : Im) (a : Act), St ⟨W, I, N⟩ I [] (argsEnv 0 args) a W → code.wp P (bodyPost P fn (Ret I W res)) a W) : Fn P f args res := by
  refine ⟨Enters.of hf hb hname, fun I w vs hm ha => ?_⟩
  refine calls_of_wp hf hb ?_
  have hl : vs.size = args.length := by simpa using ha.length
  have hN' : args.length ≤ N := Nat.le_of_ble_eq_true hN
  refine h w I _ ⟨Step.refl hm, OwnsAll.nil _ _ _, ?_, ?_, rfl⟩
  · intro t x e
    have := argsEnv_ok args vs.toList [] (List.replicate (fn.ntmps - vs.size) undef) ha t x e
    have heq : (vs ++ Array.replicate (fn.ntmps - vs.size) undef) = ([] ++ vs.toList ++ List.replicate (fn.ntmps - vs.size) undef).toArray := by
      apply Array.toList_inj.1; simp
    rw [heq]; exact this
  · simp [hn, hl]; omega

theorem Fn.cast {f : FuncId} {args args' : List AV} {res res' : AV} (h : Fn P f args res) (e : args = args') (e' : res = res') : Fn P f args' res' := e ▸ e' ▸ h

/-- A call of a known function. -/
theorem ok_call {g : Bool} {d : Option Tmp} {f : FuncId} {ys : Array Operand} {ts : Array TypeId} {ty : TypeId} {p : String} {af : Array Edge} {gd : Option (Nat × Bool)} {xs : List AV} {res : AV}
    (hf : Fn P f xs res) (h : ∀ I a, EnvOk I a Γ → g = true → HoldsA I xs (ys.map a.eval).toList) : Ok P H Γ g ⟨d, .call ⟨.value (.func f), ys, ts⟩, ty, p, af, gd⟩ res :=
  fun base I a w K Q he hm hw hg k => by
    have hc := hf.2 I w (ys.map a.eval) hm (h I a he hg)
    unfold Oper.wp
    have hr : (execOp a.eval (⟨d, .call ⟨.value (.func f), ys, ts⟩, ty, p, af, gd⟩ : Oper)).run P w = .ok (.enter f (ys.map a.eval)) w := by
      simp only [execOp, resolve, Act.eval]
      simp [go_sem, hf.1 _ w]
    rw [hr, Oper.upon_enter]
    refine Calls.mono hc fun e w' he => ?_
    cases e with
    | returned v => obtain ⟨I', hs, hx⟩ := he; exact k v I' w' hx hs
    | panicked _ => exact he.elim
    | outgrown => exact he.elim
theorem args_nil {g : Bool} : ∀ I a, EnvOk I a Γ → g = true → HoldsA I [] ((#[] : Array Operand).map a.eval).toList := fun _ _ _ _ => by simp [HoldsA]
theorem args_cons {g : Bool} {y : Operand} {ys : List Operand} {x : AV} {xs : List AV} (h : At Γ g y x) (k : ∀ I a, EnvOk I a Γ → g = true → HoldsA I xs (ys.toArray.map a.eval).toList) :
    ∀ I a, EnvOk I a Γ → g = true → HoldsA I (x :: xs) ((y :: ys).toArray.map a.eval).toList := fun I a he hg => by
  have := k I a he hg
  simp only [List.map_toArray, List.map_cons] at this ⊢
  exact ⟨h I a he hg, this⟩

theorem then_n {N : Act → World → Prop} (h : N a w) : Exit.then N Q .normal a w := h
theorem then_x {N : Act → World → Prop} {i : Nat} (h : Q (.exit i) a w) : Exit.then N Q (.exit i) a w := h
theorem then_r {N : Act → World → Prop} (h : Q .ret a w) : Exit.then N Q .ret a w := h
theorem block_n {i : Nat} (h : Q .normal a w) : Exit.inBlock i Q .normal a w := h
theorem block_r {i : Nat} (h : Q .ret a w) : Exit.inBlock i Q .ret a w := h
theorem block_hit {i : Nat} (h : Q .normal a w) : Exit.inBlock i Q (.exit i) a w := by simp only [Exit.inBlock, if_true]; exact h
theorem block_x {i j : Nat} (hne : Nat.beq j i = false) (h : Q (.exit j) a w) : Exit.inBlock i Q (.exit j) a w := by
  have : j ≠ i := fun e => by subst e; simp at hne
  simp only [Exit.inBlock, if_neg this]; exact h

theorem St.cond {cc : Operand} {t e : Code} {b : Bool} (hs : St c I H Γ a w) (hc : At Γ true cc (.bool b)) (h1 : b = true → t.wp P Q a w) (h2 : b = false → e.wp P Q a w) : (Code.cond cc t e).wp P Q a w :=
  wp_cond_split (hc I a hs.env rfl) h1 h2

theorem St.ret1 {fn : Func} {r : Nat} {x res : AV} (hs : St c I H Γ a w) (hr : fn.results = #[.tmp r]) (hx : Env.get r Γ = some x) (e : x = res) : bodyPost P fn (Ret c.I c.W res) .ret a w := by
  subst e
  exact ⟨hs.defers, _, results_tmp hr _ _ _, I, hs.step, hs.env r x hx⟩
theorem St.ret2 {fn : Func} {r r' : Nat} {x x' : AV} {res : AV} (hs : St c I H Γ a w) (hr : fn.results = #[.tmp r, .tmp r']) (hx : Env.get r Γ = some x) (hx' : Env.get r' Γ = some x') (e : AV.tup [x, x'] = res) : bodyPost P fn (Ret c.I c.W res) .ret a w := by
  subst e
  exact ⟨hs.defers, _, results_tmp2 hr _ _ _, I, hs.step, _, rfl, hs.env r x hx, hs.env r' x' hx', trivial⟩

/-- Forget entries. -/
def Env.without (ms : List Nat) (Γ : Env) : Env := Γ.filter fun p => !ms.contains p.1
theorem Env.get_without {ms : List Nat} {t : Nat} {x : AV} : ∀ {Γ : Env}, Env.get t (Env.without ms Γ) = some x → Env.get t Γ = some x ∧ ms.contains t = false
  | [], h => by simp [Env.without, Env.get] at h
  | p :: r, h => by
    have ih := fun k => Env.get_without (ms := ms) (t := t) (x := x) (Γ := r) k
    unfold Env.without at h ih
    rw [List.filter_cons] at h
    cases hm : ms.contains p.1 with
    | true =>
      rw [hm] at h
      have := ih (by simpa using h)
      refine ⟨?_, this.2⟩
      simp only [Env.get]
      cases hb : Nat.beq p.1 t with
      | true =>
        obtain rfl : p.1 = t := Nat.eq_of_beq_eq_true hb
        rw [this.2] at hm; cases hm
      | false => simpa using this.1
    | false =>
      rw [hm] at h
      simp only [Bool.not_false, if_true, Env.get] at h ⊢
      cases hb : Nat.beq p.1 t with
      | true =>
        rw [hb] at h
        obtain rfl : p.1 = t := Nat.eq_of_beq_eq_true hb
        exact ⟨h, hm⟩
      | false =>
        rw [hb] at h
        exact ih h

/-- An environment that says no more. -/
def Env.le (Γ' Γ : Env) : Prop := ∀ t x, Env.get t Γ' = some x → Env.get t Γ = some x
theorem Env.le_nil {Γ : Env} : Env.le [] Γ := fun _ _ h => by simp [Env.get] at h
theorem Env.le_cons {Γ Γ' : Env} {t : Nat} {x : AV} (hx : Env.get t Γ = some x) (h : Env.le Γ' Γ) : Env.le ((t, x) :: Γ') Γ := fun s y e => by
  simp only [Env.get] at e
  cases hb : Nat.beq t s with
  | true => rw [hb] at e; obtain rfl : t = s := Nat.eq_of_beq_eq_true hb; simp at e; subst e; exact hx
  | false => rw [hb] at e; exact h s y e
theorem St.weaken {Γ' : Env} (hs : St c I H Γ a w) (h : EnvOk I a Γ → EnvOk I a Γ') : St c I H Γ' a w := ⟨hs.step, hs.own, h hs.env, hs.size, hs.defers⟩
theorem St.le {Γ' : Env} (hs : St c I H Γ a w) (h : Env.le Γ' Γ) : St c I H Γ' a w := hs.weaken fun he t x e => he t x (h t x e)
theorem EnvOk.append {Γ' : Env} (h' : EnvOk I a Γ') (h : EnvOk I a Γ) : EnvOk I a (Γ' ++ Γ) := by
  intro t x e
  induction Γ' with
  | nil => exact h t x e
  | cons p r ih =>
    simp only [List.cons_append, Env.get] at e
    have hr : EnvOk I a r → EnvOk I a r := id
    cases hb : Nat.beq p.1 t with
    | true => rw [hb] at e; exact h' t x (by simp only [Env.get, hb]; exact e)
    | false =>
      rw [hb] at e
      have key : ∀ (s : Env), (∀ u z, Env.get u s = some z → z.h I (a.tmps.getD u undef) ∨ u ≠ t) → Env.get t (s ++ Γ) = some x → x.h I (a.tmps.getD t undef) := by
        intro s
        induction s with
        | nil => intro _ e; exact h t x e
        | cons q s ih2 =>
          intro hs e
          simp only [List.cons_append, Env.get] at e
          cases hq : Nat.beq q.1 t with
          | true =>
            rw [hq] at e
            exact (hs t x (by simp only [Env.get, hq]; exact e)).resolve_right (by simp)
          | false =>
            rw [hq] at e
            refine ih2 (fun u z hz => ?_) e
            by_cases hu : u = t
            · subst hu
              exact hs u z (by simp only [Env.get, hq]; exact hz)
            · exact .inr hu
      refine key r (fun u z hz => ?_) e
      by_cases hu : u = t
      · subst hu
        exact .inl (h' u z (by simp only [Env.get, hb]; exact hz))
      · exact .inr hu

/-- An assertion in the middle: what is known of some slots; the slots that are not written keep what is known of them. -/
structure Mid (σ : Type) where
  env : σ → Env
  own : σ → List Own
  ok : σ → Prop

def Mid.holds {σ : Type} (m : Mid σ) (c : Ctx) (Γ0 : Env) (x : σ) (a : Act) (w : World) : Prop := m.ok x ∧ ∃ I, St c I (m.own x) (m.env x ++ Γ0) a w

theorem St.mid {σ : Type} {m : Mid σ} {Γ0 : Env} (hs : St c I H Γ a w) (x : σ) (hH : H = m.own x) (hok : m.ok x) (h1 : Env.le (m.env x) Γ) (h0 : Env.le Γ0 Γ) : m.holds c Γ0 x a w := by
  subst hH
  exact ⟨hok, I, hs.weaken fun he => EnvOk.append (fun t x e => he t x (h1 t x e)) (fun t x e => he t x (h0 t x e))⟩

/-- Entries that a piece of code does not write are still there behind it. -/
theorem Env.le_without {ms : List Nat} {Γ : Env} : Env.le (Env.without ms Γ) Γ := fun _ _ h => (Env.get_without h).1
theorem Env.le_push {ms : List Nat} {Γ Γ' : Env} {t : Nat} {x : AV} (ht : ms.contains t = true) (h : Env.le (Env.without ms Γ) Γ') : Env.le (Env.without ms Γ) ((t, x) :: Γ') := fun s y e => by
  simp only [Env.get]
  cases hb : Nat.beq t s with
  | true =>
    obtain rfl : t = s := Nat.eq_of_beq_eq_true hb
    rw [(Env.get_without e).2] at ht; cases ht
  | false => exact h s y e

theorem St.loop {σ : Type} (m : Mid σ) (μ : σ → Nat) {Γ0 : Env} {body : Code} (x : σ) (h0 : m.holds c Γ0 x a w)
    (round : ∀ x I a w, m.ok x → St c I (m.own x) (m.env x ++ Γ0) a w → body.wp P (Exit.then (fun a w => ∃ y, μ y < μ x ∧ m.holds c Γ0 y a w) Q) a w) : (Code.loop body).wp P Q a w := by
  refine wp_loop_ghost (fun n a w => ∃ y, μ y = n ∧ m.holds c Γ0 y a w) (μ x) ⟨x, rfl, h0⟩ ?_
  rintro n a w ⟨y, rfl, hok, I, hs⟩
  refine wp_mono (round y I a w hok hs) fun e a' w' hq => ?_
  cases e with
  | normal => obtain ⟨z, h1, h2⟩ := hq; exact ⟨μ z, h1, z, rfl, h2⟩
  | _ => exact hq

theorem Env.le_rfl : Env.le Γ Γ := fun _ _ h => h
theorem Env.le_consE {Γ' : Env} {t : Nat} {x x' : AV} (hx : Env.get t Γ = some x') (e : x' = x) (h : Env.le Γ' Γ) : Env.le ((t, x) :: Γ') Γ := Env.le_cons (by rw [hx, e]) h
/-- What a round hands on. -/
def Again {σ : Type} (m : Mid σ) (μ : σ → Nat) (x : σ) (c : Ctx) (Γ0 : Env) (a : Act) (w : World) : Prop := ∃ y, μ y < μ x ∧ m.holds c Γ0 y a w
def Meets {σ : Type} (m : Mid σ) (c : Ctx) (Γ0 : Env) (a : Act) (w : World) : Prop := ∃ z, m.holds c Γ0 z a w
theorem St.loopS {σ : Type} (ms : List Nat) (m : Mid σ) (μ : σ → Nat) {body : Code} (x : σ) (hs : St c I H Γ a w) (hH : H = m.own x) (hok : m.ok x) (h1 : Env.le (m.env x) Γ)
    (round : ∀ x I a w, m.ok x → St c I (m.own x) (m.env x ++ Env.without ms Γ) a w → body.wp P (Exit.then (Again m μ x c (Env.without ms Γ)) Q) a w) : (Code.loop body).wp P Q a w :=
  St.loop m μ x (hs.mid x hH hok h1 Env.le_without) round
theorem St.again {σ : Type} {m : Mid σ} {μ : σ → Nat} {x : σ} {Γ0 : Env} (y : σ) (hs : St c I H Γ a w) (hμ : μ y < μ x) (hok : m.ok y) (hH : H = m.own y) (h1 : Env.le (m.env y) Γ) (h0 : Env.le Γ0 Γ) : Again m μ x c Γ0 a w :=
  ⟨y, hμ, hs.mid y hH hok h1 h0⟩
theorem St.meet {σ : Type} {m : Mid σ} {Γ0 : Env} (y : σ) (hs : St c I H Γ a w) (hok : m.ok y) (hH : H = m.own y) (h1 : Env.le (m.env y) Γ) (h0 : Env.le Γ0 Γ) : Meets m c Γ0 a w :=
  ⟨y, hs.mid y hH hok h1 h0⟩
/-- The ways through a piece of code meet again. -/
theorem St.cut {σ : Type} (ms : List Nat) (m : Mid σ) {x y : Code} (_hs : St c I H Γ a w) (h1 : x.wp P (Exit.then (Meets m c (Env.without ms Γ)) Q) a w)
    (h2 : ∀ z I a w, m.ok z → St c I (m.own z) (m.env z ++ Env.without ms Γ) a w → y.wp P Q a w) : (Code.seq x y).wp P Q a w := by
  refine wp_seq (wp_mono h1 fun e a' w' hq => ?_)
  cases e with
  | normal => obtain ⟨z, hok, I, hs⟩ := hq; exact h2 z I a' w' hok hs
  | _ => exact hq
theorem St.region {id : Nat} {l : List Oper} (h : wpList P l.toArray Q l a w) : (Code.region id l.toArray false).wp P Q a w := wp_region_lit h


theorem tmps_of_bool {t : Nat} {b : Bool} (h : a.tmps.getD t undef = .bool b) : a.tmps[t]? = some (.bool b) := by
  rw [Array.getD_eq_getD_getElem?] at h
  cases e : a.tmps[t]? with
  | none => rw [e] at h; simp [undef] at h
  | some v => rw [e] at h; simpa using h
theorem tmps_of_undef {t : Nat} (h : a.tmps.getD t undef = undef) : a.tmps[t]? = none ∨ a.tmps[t]? = some undef := by
  rw [Array.getD_eq_getD_getElem?] at h
  cases e : a.tmps[t]? with
  | none => exact .inl rfl
  | some v => rw [e] at h; simp at h; exact .inr (by rw [h])

/-- An operation under a guard. 'G': whether it is carried out. -/
def Guarded (ops : Array Oper) (Γ : Env) (o : Oper) (G : Bool) : Prop := ∀ I a, EnvOk I a Γ → Region.wanted o (yielded ops a.tmps) = G
theorem guarded_none {ops : Array Oper} {o : Oper} (h : o.guard = none) : Guarded ops Γ o true := fun _ _ _ => by simp [Region.wanted, h]
theorem guarded_T {ops : Array Oper} {o : Oper} {j t : Nat} {b : Bool} (h : o.guard = some (j, true)) (hj : (ops[j]?).bind (·.dst) = some t) (ht : Env.get t Γ = some (.bool b)) : Guarded ops Γ o b := fun I a he => by
  have := tmps_of_bool (he t _ ht)
  simp only [Region.wanted, h, yielded, hj, Option.bind_some, this]
  cases b <;> rfl
theorem guarded_F {ops : Array Oper} {o : Oper} {j t : Nat} {b : Bool} (h : o.guard = some (j, false)) (hj : (ops[j]?).bind (·.dst) = some t) (ht : Env.get t Γ = some (.bool b)) : Guarded ops Γ o (!b) := fun I a he => by
  have := tmps_of_bool (he t _ ht)
  simp only [Region.wanted, h, yielded, hj, Option.bind_some, this]
  cases b <;> rfl
theorem guarded_T2 {ops : Array Oper} {o : Oper} {j t : Nat} {g b : Bool} (h : o.guard = some (j, true)) (hj : (ops[j]?).bind (·.dst) = some t) (ht : Env.get t Γ = some (.cond g (.bool b))) : Guarded ops Γ o (g && b) := fun I a he => by
  have hc := he t _ ht
  cases g
  · rcases tmps_of_undef (hc.2 rfl) with e | e <;> simp [Region.wanted, h, yielded, hj, e, undef]
  · have := tmps_of_bool (hc.1 rfl)
    simp only [Region.wanted, h, yielded, hj, Option.bind_some, this]
    cases b <;> rfl
theorem guarded_F2 {ops : Array Oper} {o : Oper} {j t : Nat} {g b : Bool} (h : o.guard = some (j, false)) (hj : (ops[j]?).bind (·.dst) = some t) (ht : Env.get t Γ = some (.cond g (.bool b))) : Guarded ops Γ o (g && !b) := fun I a he => by
  have hc := he t _ ht
  cases g
  · rcases tmps_of_undef (hc.2 rfl) with e | e <;> simp [Region.wanted, h, yielded, hj, e, undef]
  · have := tmps_of_bool (hc.1 rfl)
    simp only [Region.wanted, h, yielded, hj, Option.bind_some, this]
    cases b <;> rfl

theorem St.opG {ops : Array Oper} {rest : List Oper} {o : Oper} {d : Nat} {x : AV} {G : Bool} (hs : St c I H Γ a w) (hg : Guarded ops Γ o G) (ho : o.dst = some d) (hd : Nat.blt d c.n = true) (ok : Ok P H Γ G o x)
    (k : ∀ I' a' w', St c I' H ((d, .cond G x) :: Γ) a' w' → wpList P ops Q rest a' w') : wpList P ops Q (o :: rest) a w := by
  unfold wpList
  rw [hg I a hs.env]
  cases G with
  | true =>
    rw [if_pos rfl]
    refine .inl (ok c.W.heap.size I a w _ _ hs.env hs.step.models hs.own rfl fun v I' w' hx s => k I' _ w' ?_)
    rw [ho]
    exact hs.put (by simpa using hd) ⟨fun _ => hx, fun h => (by cases h)⟩ s
  | false =>
    rw [if_neg (by simp)]
    refine k I _ w ?_
    rw [ho]
    exact hs.put (by simpa using hd) ⟨fun h => (by cases h), fun _ => rfl⟩ (Step.refl hs.step.models)
end
end Go.Proofs.YtlppgilifnkapaaGreat
