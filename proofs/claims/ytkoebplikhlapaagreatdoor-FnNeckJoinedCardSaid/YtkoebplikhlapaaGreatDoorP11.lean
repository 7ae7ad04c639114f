/- Part 11: rules of the proofs, contracts of functions, plain facts. -/
import Derived.Laws.CopyRow
import Derived.Lib.AppendZerosOnto
import Derived.Lib.Overlaps
import Derived.Laws.Externs
import Derived.Test.YtkoebplikhlapaaGreatDoorP10
set_option linter.unusedVariables false
set_option linter.unusedSimpArgs false
namespace Go.Proofs.YtkoebplikhlapaaGreatDoor
open Go Go.RowKit
section
variable {Γ : Env} {g g' b : Bool} {t : Nat} {x : AV} {o : Operand}
theorem At.tt (h : Env.get t Γ = some x := by rfl) : At Γ g (.tmp t) x := .t h
theorem At.ag (h : Env.get t Γ = some (AV.cond g' x) := by rfl) (hg : g = true → g' = true := by intro hg; first | exact hg | exact (Bool.and_eq_true_iff.1 hg).1 | exact (Bool.and_eq_true_iff.1 (Bool.and_eq_true_iff.1 hg).1).1) : At Γ g (.tmp t) x := .g h hg
theorem At.r (h : At Γ g o x := by first | exact .t rfl | exact .nil (.t rfl)) : At Γ g o x := h
theorem At.pc (h : At Γ g o x := by first | exact .t rfl | exact .gc rfl (fun hg => hg) | exact .gc rfl (fun hg => (Bool.and_eq_true_iff.1 hg).1)) : At Γ g o x := h
end
section
variable {P : Program} {c : Ctx} {I : Im} {H : List Own} {Γ : Env} {a : Act} {w : World} {Q : Exit → Act → World → Prop} {ops : Array Oper} {rest os : List Oper} {g G b : Bool} {x : AV} {d t j : Nat} {op : Op} {ty : TypeId} {p : String} {af : Array Edge} {gd : Option (Nat × Bool)} {y : Operand} {v : Value}
theorem Guarded.T {o : Oper} (h : o.guard = some (j, true) := by rfl) (hj : (ops[j]?).bind (·.dst) = some t := by rfl) (ht : Env.get t Γ = some (.bool b) := by rfl) : Guarded ops Γ o b := guarded_T h hj ht
theorem Guarded.F {o : Oper} (h : o.guard = some (j, false) := by rfl) (hj : (ops[j]?).bind (·.dst) = some t := by rfl) (ht : Env.get t Γ = some (.bool b) := by rfl) : Guarded ops Γ o (!b) := guarded_F h hj ht
theorem Guarded.T2 {o : Oper} (h : o.guard = some (j, true) := by rfl) (hj : (ops[j]?).bind (·.dst) = some t := by rfl) (ht : Env.get t Γ = some (.cond g (.bool b)) := by rfl) : Guarded ops Γ o (g && b) := guarded_T2 h hj ht
theorem Guarded.F2 {o : Oper} (h : o.guard = some (j, false) := by rfl) (hj : (ops[j]?).bind (·.dst) = some t := by rfl) (ht : Env.get t Γ = some (.cond g (.bool b)) := by rfl) : Guarded ops Γ o (g && !b) := guarded_F2 h hj ht
theorem St.o (hs : St c I H Γ a w) (ok : Ok P H Γ true ⟨some d, op, ty, p, af, none⟩ x) (k : ∀ {I' a' w'}, St c I' H ((d, x) :: Γ) a' w' → wpList P ops Q rest a' w') (hd : Nat.blt d c.n = true := by rfl) : wpList P ops Q (⟨some d, op, ty, p, af, none⟩ :: rest) a w := hs.op rfl rfl hd ok fun _ _ _ h => k h
theorem St.m (hs : St c I H Γ a w) (k : ∀ {I' a' w'}, St c I' H ((d, x) :: Γ) a' w' → wpList P ops Q rest a' w') (hy : Env.get t Γ = some x := by rfl) (hd : Nat.blt d c.n = true := by rfl) : wpList P ops Q (⟨some d, .move (.tmp t), ty, p, af, none⟩ :: rest) a w := hs.op rfl rfl hd (ok_move (.t hy)) fun _ _ _ h => k h
theorem St.s (hs : St c I H Γ a w) (k : ∀ {I' a' w'}, St c I' H ((d, x) :: Γ) a' w' → wpList P ops Q rest a' w') (hy : Env.get t Γ = some x := by rfl) (hd : Nat.blt d c.n = true := by rfl) : wpList P ops Q (⟨some d, .assign (.tmp t), ty, p, af, none⟩ :: rest) a w := hs.op rfl rfl hd (ok_assign (.t hy)) fun _ _ _ h => k h
theorem St.mc (hs : St c I H Γ a w) (k : ∀ {I' a' w'}, St c I' H ((d, .val v) :: Γ) a' w' → wpList P ops Q rest a' w') (hd : Nat.blt d c.n = true := by rfl) : wpList P ops Q (⟨some d, .move (.const v), ty, p, af, none⟩ :: rest) a w := hs.op rfl rfl hd (ok_move .c) fun _ _ _ h => k h
theorem St.sc (hs : St c I H Γ a w) (k : ∀ {I' a' w'}, St c I' H ((d, .val v) :: Γ) a' w' → wpList P ops Q rest a' w') (hd : Nat.blt d c.n = true := by rfl) : wpList P ops Q (⟨some d, .assign (.const v), ty, p, af, none⟩ :: rest) a w := hs.op rfl rfl hd (ok_assign .c) fun _ _ _ h => k h
theorem St.q (hs : St c I H Γ a w) (hg : Guarded ops Γ ⟨some d, op, ty, p, af, gd⟩ G) (ok : Ok P H Γ G ⟨some d, op, ty, p, af, gd⟩ x) (k : ∀ {I' a' w'}, St c I' H ((d, .cond G x) :: Γ) a' w' → wpList P ops Q rest a' w') (hd : Nat.blt d c.n = true := by rfl) : wpList P ops Q (⟨some d, op, ty, p, af, gd⟩ :: rest) a w := hs.opG hg rfl hd ok fun _ _ _ h => k h
theorem RunK.o {o : Oper} (ok : Ok P H (Γ.only (o.looksAt ops)) true o x) (k : RunK P c H ops Q ((o.dst.getD 0, x) :: Γ) os) (hg : o.guard = none := by rfl) : RunK P c H ops Q Γ (o :: os) := .cons (.of hg ok) k
theorem RunK.q {o : Oper} (hg : Guarded ops (Γ.only (o.looksAt ops)) o G) (ok : Ok P H (Γ.only (o.looksAt ops)) G o x) (k : RunK P c H ops Q ((o.dst.getD 0, AV.cond G x) :: Γ) os) : RunK P c H ops Q Γ (o :: os) := .cons (.ofG hg ok) k
theorem St.dk {id : Nat} {l : List Oper} (hs : St c I H Γ a w) (run : RunK P c H l.toArray Q Γ l) (hm : P.follows .mixedOrders = true := by kernel_rfl) (hchk : drawChk l = true := by kernel_rfl) (hd : (l.all fun o => Nat.blt (o.dst.getD 0) c.n) = true := by rfl) : (Code.region id l.toArray true).wp P Q a w := hs.drawK hm hchk hd run
end
theorem B : (∀ (p : Prop) [Decidable p], (decide p = true) = p) ∧ (∀ (p : Prop) [Decidable p], (decide p = false) ↔ ¬p) ∧ (∀ b : Bool, ((!b) = true) = (b = false)) ∧ (∀ b : Bool, ((!b) = false) = (b = true)) ∧ (∀ a b : Bool, ((a && b) = true) = (a = true ∧ b = true)) ∧
    (∀ a b : Bool, ((a || b) = true) = (a = true ∨ b = true)) ∧ (∀ a b : Bool, ((a && b) = false) ↔ (a = false ∨ b = false)) ∧ (∀ a b : Bool, ((a || b) = false) ↔ (a = false ∧ b = false)) ∧ (∀ (α : Type) [BEq α] [LawfulBEq α] (a b : α), (a == b) = true ↔ a = b) ∧ (∀ (α : Type) [BEq α] [LawfulBEq α] (a b : α), (a != b) = true ↔ ¬a = b) ∧
    (∀ (α : Type) [BEq α] [LawfulBEq α] (a b : α), (a != b) = false ↔ a = b) ∧ (∀ (α : Type) [BEq α] [LawfulBEq α] (a b : α), (a == b) = false ↔ ¬a = b) ∧
    (∀ a b : Int, (¬a < b) ↔ b ≤ a) ∧ (∀ a b : Int, (¬a ≤ b) ↔ b < a) ∧ (∀ n m : Nat, ((n : Int) < m) ↔ n < m) ∧ (∀ n m : Nat, ((n : Int) ≤ m) ↔ n ≤ m) :=
  ⟨fun _ _ => decide_eq_true_eq, fun _ _ => decide_eq_false_iff_not, fun b => by simp, fun b => by simp, Bool.and_eq_true, Bool.or_eq_true, fun _ _ => Bool.and_eq_false_iff, fun _ _ => Bool.or_eq_false_iff, fun _ _ _ _ _ => beq_iff_eq, fun _ _ _ _ _ => bne_iff_ne, fun _ _ _ _ _ => bne_eq_false_iff_eq, fun _ _ _ _ _ => beq_eq_false_iff_ne, fun _ _ => Int.not_lt, fun _ _ => Int.not_le, fun _ _ => Int.ofNat_lt, fun _ _ => Int.ofNat_le⟩
def over {α : Type} (L : List α) (o : Nat) (X : List α) : List α := L.take o ++ X ++ L.drop (o + X.length)
theorem calls_intro {P : Program} {f : FuncId} {fn : Func} {code : Code} {args : List AV} {R : Ending → World → Prop} (N : Nat) (hf : P.funcs[f]? = some fn) (hb : fn.body = some code) (hn : fn.ntmps = N) (hN : Nat.ble args.length N = true)
    {W0 : World} {F : Nat → Prop} {I0 I : Im} {w : World} {vs : Array Value} {h0 : List Own} (hst : StepF F I0 W0 I w) (hown : OwnsAll (Ctx.own ⟨W0, I0, N, F⟩) I w h0) (ha : HoldsA I args vs.toList)
    (h : ∀ a : Act, St ⟨W0, I0, N, F⟩ I h0 (argsEnv 0 args) a w → code.wp P (bodyPost P fn R) a w) : Calls P f vs w R := by
  refine calls_of_wp hf hb ?_
  have hl : vs.size = args.length := by simpa using ha.length
  have hN' : args.length ≤ N := Nat.le_of_ble_eq_true hN
  refine h _ ⟨hst, hown, ?_, ?_, rfl⟩
  · intro t x e
    have := argsEnv_ok args vs.toList [] (List.replicate (fn.ntmps - vs.size) undef) ha t x e
    have heq : (vs ++ Array.replicate (fn.ntmps - vs.size) undef) = ([] ++ vs.toList ++ List.replicate (fn.ntmps - vs.size) undef).toArray := by
      apply Array.toList_inj.1; simp
    rw [heq]; exact this
  · simp [hn, hl]; omega
theorem OwnsAll.only {base : Nat → Prop} {I : Im} {w : World} {H : List Own} {x : Own} {k : Nat} (h : OwnsAll base I w H) (hk : H[k]? = some x) : OwnsAll base I w [x] :=
  ⟨fun o ho => by obtain rfl : o = x := by simpa using ho
                  exact h.all _ (List.mem_of_getElem? hk), by
    simp only [List.filterMap_cons, List.filterMap_nil]
    cases x.blk <;> simp⟩
def blks (h : List Own) (b : Nat) : Prop := b ∈ h.filterMap Own.blk
def RetE {α : Type} (c : Ctx) (ok : α → Prop) (h1 : α → List Own) (res : α → AV) : Ending → World → Prop
  | .returned v, w' => ∃ x I', ok x ∧ StepF c.F c.I c.W I' w' ∧ OwnsAll c.own I' w' (h1 x) ∧ (res x).h I' v
  | _, _ => False
def FnE {α : Type} (P : Program) (f : FuncId) (args : List AV) (h0 : List Own) (ok : α → Prop) (h1 : α → List Own) (res : α → AV) : Prop :=
  Enters P f ∧ ∀ (I : Im) (w : World) (vs : Array Value), Models w I → OwnsAll (blks h0) I w h0 → HoldsA I args vs.toList → Calls P f vs w (RetE ⟨w, I, 0, blks h0⟩ ok h1 res)
theorem OwnsAll.weaken {base base' : Nat → Prop} {I : Im} {w : World} {H : List Own} (h : OwnsAll base I w H) (hb : ∀ b, base b → base' b) : OwnsAll base' I w H :=
  ⟨fun o ho => ⟨(h.all o ho).1, fun b e => ⟨hb b ((h.all o ho).2 b e).1, ((h.all o ho).2 b e).2⟩⟩, h.nodup⟩
theorem OwnsAll.exact {base : Nat → Prop} {I : Im} {w : World} {H : List Own} (h : OwnsAll base I w H) : OwnsAll (blks H) I w H :=
  ⟨fun o ho => ⟨(h.all o ho).1, fun b e => ⟨List.mem_filterMap.2 ⟨o, ho, e⟩, ((h.all o ho).2 b e).2⟩⟩, h.nodup⟩
theorem FnE.intro {α : Type} {P : Program} {f : FuncId} {fn : Func} {code : Code} {args : List AV} {h0 : List Own} {ok : α → Prop} {h1 : α → List Own} {res : α → AV} (N : Nat) (hf : P.funcs[f]? = some fn) (hb : fn.body = some code) (hn : fn.ntmps = N) (hN : Nat.ble args.length N = true) (hname : (fn.name == "runtime.NumGoroutine") = false)
    (h : ∀ (W : World) (I : Im) (a : Act), St ⟨W, I, N, blks h0⟩ I h0 (argsEnv 0 args) a W → code.wp P (bodyPost P fn (RetE ⟨W, I, N, blks h0⟩ ok h1 res)) a W) : FnE P f args h0 ok h1 res :=
  ⟨Enters.of hf hb hname, fun I w vs hm ho ha => Calls.mono (calls_intro N hf hb hn hN (StepF.refl hm) (ho.weaken fun b hb => Or.inr hb) ha (h w I)) fun e w' he => he⟩
section
variable {P : Program} {c : Ctx} {I : Im} {H : List Own} {Γ : Env} {a : Act} {w : World} {Q : Exit → Act → World → Prop} {ops : Array Oper} {rest : List Oper} {d : Nat} {y z : Operand} {ty T E : TypeId} {p : String} {af : Array Edge} {m sz : Nat} {zv : Value} {ys : Array Operand} {ts : Array TypeId} {l l' : List (List AV)}
theorem run_callF {f : FuncId} {o : Oper} (hen : Enters P f) (ho : o = ⟨some d, .call ⟨.value (.func f), ys, ts⟩, ty, p, af, none⟩) : (execOp a.eval o).run P w = .ok (.enter f (ys.map a.eval)) w := by
  subst ho
  simp only [execOp, resolve, Act.eval]
  simp [Deferred.ofValue, invoke, hen _ w, Sem.run_bind, Sem.run_pure]
def hole : List Own → List Nat → List Own
  | H, [] => H
  | H, k :: ks => hole (H.set k Own.gone) ks
def fill : List Own → List Nat → List Own → List Own
  | H, [], r => H ++ r
  | H, _ :: _, [] => H
  | H, k :: ks, o :: r => fill (H.set k o) ks r
theorem OwnsAll.moved {base : Nat → Prop} {o : Own} {r : List Own} {k : Nat} (h : OwnsAll base I w (H ++ r)) (hk : H[k]? = some o) : OwnsAll base I w (H.set k Own.gone ++ (r ++ [o])) := by
  obtain ⟨hl, rfl⟩ := List.getElem?_eq_some_iff.1 hk
  have e1 : H = H.take k ++ H[k] :: H.drop (k + 1) := by simp
  have e2 : H.set k Own.gone = H.take k ++ Own.gone :: H.drop (k + 1) := by rw [List.set_eq_take_append_cons_drop, if_pos hl]
  refine ⟨fun x hx => ?_, ?_⟩
  · rw [e2] at hx
    simp only [List.append_assoc, List.cons_append, List.mem_append, List.mem_cons, List.not_mem_nil, or_false] at hx
    rcases hx with hx | rfl | hx | hx | rfl
    · exact h.all x (List.mem_append_left _ (List.mem_of_mem_take hx))
    · exact ⟨trivial, fun b e => by cases e⟩
    · exact h.all x (List.mem_append_left _ (List.mem_of_mem_drop hx))
    · exact h.all x (List.mem_append_right _ hx)
    · exact h.all _ (List.mem_append_left _ (List.getElem_mem _))
  · have hn := h.nodup
    rw [e2]
    rw [e1] at hn
    refine hn.perm ?_
    simp only [List.append_assoc, List.cons_append, List.filterMap_append, List.filterMap_cons, List.filterMap_nil]
    have : Own.gone.blk = none := rfl
    rw [this]
    cases hb : (H[k]).blk with
    | none => simp
    | some b =>
      simp only []
      refine List.Perm.append_left _ ?_
      rw [← List.append_assoc]
      exact (List.perm_append_comm (l₁ := [b])).trans (by simp)
theorem OwnsAll.unhole {base : Nat → Prop} : ∀ {ks : List Nat} {H h0 r : List Own}, OwnsAll base I w (H ++ r) → ks.Nodup → ks.map (fun k => H[k]?) = h0.map some → OwnsAll base I w (hole H ks ++ (r ++ h0))
  | [], H, [], r, h, _, _ => by simpa [hole] using h
  | [], _, _ :: _, _, _, _, e => by simp at e
  | _ :: _, _, [], _, _, _, e => by simp at e
  | k :: ks, H, o :: h0, r, h, hd, e => by
    rw [List.nodup_cons] at hd
    simp only [List.map_cons, List.cons.injEq] at e
    have := OwnsAll.unhole (ks := ks) (H := H.set k Own.gone) (h0 := h0) (r := r ++ [o]) (h.moved e.1) hd.2 (by
      rw [← e.2]
      refine List.map_congr_left fun j hj => ?_
      have hne : k ≠ j := fun h => hd.1 (by rw [h]; exact hj)
      rw [List.getElem?_set_ne hne])
    simpa [hole] using this
theorem OwnsAll.pick {base : Nat → Prop} {ks : List Nat} {h0 : List Own} (h : OwnsAll base I w H) (hks : ks.map (fun k => H[k]?) = h0.map some) (hnd : ks.Nodup) : OwnsAll base I w h0 := by
  have hun := OwnsAll.unhole (r := []) (by simpa using h) hnd hks
  rw [List.nil_append] at hun
  refine ⟨fun o ho => hun.all o (List.mem_append_right _ ho), ?_⟩
  have hn := hun.nodup
  rw [List.filterMap_append, List.nodup_append] at hn
  exact hn.2.1
theorem St.retE {α : Type} {fn : Func} {rs : List ResultVar} {xs : List AV} {ok : α → Prop} {h1 : α → List Own} {res : α → AV} (x : α) (ks : List Nat) (hs : St c I H Γ a w) (hr : fn.results = rs.toArray) (h : ResL P H Γ rs xs) (hx : ok x) (hks : ks.map (fun k => H[k]?) = (h1 x).map some) (e : resAV xs = res x) (hnd : decide ks.Nodup = true := by decide) : bodyPost P fn (RetE c ok h1 res) .ret a w := by
  obtain ⟨v, e1, e2⟩ := hs.retRun hr h
  exact ⟨hs.defers, v, e1, x, I, hx, hs.step, hs.own.pick hks (of_decide_eq_true hnd), e ▸ e2⟩
theorem St.retnE {α : Type} {fn : Func} {rs : List ResultVar} {xs : List AV} {ok : α → Prop} {h1 : α → List Own} {res : α → AV} (x : α) (ks : List Nat) (hs : St c I H Γ a w) (hr : fn.results = rs.toArray) (h : ResL P H Γ rs xs) (hx : ok x) (hks : ks.map (fun k => H[k]?) = (h1 x).map some) (e : resAV xs = res x) (hnd : decide ks.Nodup = true := by decide) : bodyPost P fn (RetE c ok h1 res) .normal a w := hs.retE x ks hr h hx hks e hnd
theorem hole_gone : ∀ {ks : List Nat} {H : List Own} {k : Nat}, k ∈ ks → k < H.length → (hole H ks)[k]? = some Own.gone
  | [], _, _, h, _ => by simp at h
  | j :: ks, H, k, h, hl => by
    unfold hole
    by_cases hk : k ∈ ks
    · exact hole_gone hk (by simpa using hl)
    · obtain rfl : k = j := (List.mem_cons.1 h).resolve_right hk
      have : ∀ (ks : List Nat) (H : List Own), k ∉ ks → (hole H ks)[k]? = H[k]? := by
        intro ks
        induction ks with
        | nil => intro H _; rfl
        | cons i ks ih =>
          intro H hn
          rw [List.mem_cons, not_or] at hn
          unfold hole
          rw [ih _ hn.2, List.getElem?_set_ne (fun h => hn.1 h.symm)]
      rw [this ks _ hk, List.getElem?_set_self hl]
theorem OwnsAll.filled {base : Nat → Prop} : ∀ {ks : List Nat} {H r : List Own}, OwnsAll base I w (H ++ r) → ks.Nodup → (∀ k ∈ ks, H[k]? = some Own.gone) → OwnsAll base I w (fill H ks r)
  | [], H, r, h, _, _ => by simpa [fill] using h
  | _ :: _, H, [], h, _, _ => by simpa [fill] using h
  | k :: ks, H, o :: r, h, hd, hg => by
    rw [List.nodup_cons] at hd
    unfold fill
    have hk := hg k (by simp)
    obtain ⟨hl, he⟩ := List.getElem?_eq_some_iff.1 hk
    have e1 : H = H.take k ++ Own.gone :: H.drop (k + 1) := by rw [← he]; simp
    have e2 : H.set k o = H.take k ++ o :: H.drop (k + 1) := by rw [List.set_eq_take_append_cons_drop, if_pos hl]
    refine OwnsAll.filled ⟨fun x hx => ?_, ?_⟩ hd.2 fun j hj => ?_
    · refine h.all x ?_
      rcases List.mem_append.1 hx with hx | hx
      · rcases List.mem_or_eq_of_mem_set hx with hx | rfl
        · simp [hx]
        · simp
      · simp [hx]
    · have hn := h.nodup
      rw [e1] at hn
      rw [e2]
      refine hn.perm ?_
      simp only [List.append_assoc, List.cons_append, List.filterMap_append, List.filterMap_cons, List.filterMap_nil]
      have : Own.gone.blk = none := rfl
      rw [this]
      cases hb : o.blk with
      | none => simp
      | some b =>
        simp only []
        refine List.Perm.append_left _ ?_
        exact List.perm_middle
    · have hne : k ≠ j := fun h => hd.1 (by rw [h]; exact hj)
      rw [List.getElem?_set_ne hne]; exact hg j (by simp [hj])
theorem St.calledE {α : Type} {I' : Im} {w' : World} {h0 : List Own} {h1 : α → List Own} {res : α → AV} {x : α} {v : Value} (ks : List Nat) (hs : St c I H Γ a w) (hks : ks.map (fun k => H[k]?) = h0.map some) (hnd : ks.Nodup)
    (hst : StepF (blks h0) I w I' w') (ho : OwnsAll (Ctx.own ⟨w, I, 0, blks h0⟩) I' w' (h1 x)) (hv : (res x).h I' v) (hd : Nat.blt d c.n = true) : St c I' (fill (hole H ks) ks (h1 x)) ((d, res x) :: Γ) (a.put (some d) v) w' := by
  have hun := OwnsAll.unhole (r := []) (by simpa using hs.own) hnd hks
  rw [List.nil_append] at hun
  have hblk : ∀ b, blks h0 b → c.own b := fun b hb => by
    obtain ⟨o, ho, e⟩ := List.mem_filterMap.1 hb
    exact ((hun.all o (List.mem_append_right _ ho)).2 b e).1
  have hnot : ∀ o ∈ hole H ks, ∀ b, o.blk = some b → ¬ blks h0 b := fun o ho b e hb => by
    have hn := hun.nodup
    rw [List.filterMap_append, List.nodup_append] at hn
    exact hn.2.2 b (List.mem_filterMap.2 ⟨o, ho, e⟩) b hb rfl
  have hown : OwnsAll c.own I' w' (hole H ks ++ h1 x) := by
    refine ⟨fun o hm => ?_, ?_⟩
    · rcases List.mem_append.1 hm with hm | hm
      · obtain ⟨q1, q2⟩ := hun.all o (List.mem_append_left _ hm)
        refine ⟨o.keep I I' w w' hst.le (fun b e => hst.below.block b (q2 b e).2.2 (hnot o hm b e)) q1, fun b e => ?_⟩
        obtain ⟨r1, r2, r3⟩ := q2 b e
        exact ⟨r1, (hst.old b r3 (hnot o hm b e)).trans r2, Nat.lt_of_lt_of_le r3 hst.below.size⟩
      · obtain ⟨q1, q2⟩ := ho.all o hm
        refine ⟨q1, fun b e => ?_⟩
        obtain ⟨r1, r2, r3⟩ := q2 b e
        exact ⟨r1.elim (fun h => .inl (Nat.le_trans hs.step.below.size h)) (hblk b), r2, r3⟩
    · rw [List.filterMap_append, List.nodup_append]
      have hn := hun.nodup
      rw [List.filterMap_append, List.nodup_append] at hn
      refine ⟨hn.1, ho.nodup, fun b hb b' hb' e => ?_⟩
      subst e
      obtain ⟨o, hm, e⟩ := List.mem_filterMap.1 hb
      obtain ⟨o', hm', e'⟩ := List.mem_filterMap.1 hb'
      have h3 := ((hun.all o (List.mem_append_left _ hm)).2 b e).2.2
      rcases ((ho.all o' hm').2 b e').1 with h | h
      · have h : w.heap.size ≤ b := h
        omega
      · exact hnot o hm b e h
  have hstep : StepF c.F c.I c.W I' w' := by
    refine ⟨Im.le_trans hs.step.le hst.le, fun b hb hf => ?_, hst.models, ⟨hst.below.os.trans hs.step.below.os, hst.below.tape.trans hs.step.below.tape, hst.below.output.trans hs.step.below.output, Nat.le_trans hs.step.below.size hst.below.size, fun b hb hf => ?_⟩⟩
    · have hn : ¬ blks h0 b := fun h => by rcases hblk b h with h | h; exact absurd h (by omega); exact hf h
      exact (hst.old b (Nat.lt_of_lt_of_le hb hs.step.below.size) hn).trans (hs.step.old b hb hf)
    · have hn : ¬ blks h0 b := fun h => by rcases hblk b h with h | h; exact absurd h (by omega); exact hf h
      exact (hst.below.block b (Nat.lt_of_lt_of_le hb hs.step.below.size) hn).trans (hs.step.below.block b hb hf)
  have hgone : ∀ k ∈ ks, (hole H ks)[k]? = some Own.gone := fun k hk => by
    have : (H[k]?) ∈ h0.map some := by rw [← hks]; exact List.mem_map.2 ⟨k, hk, rfl⟩
    obtain ⟨o, _, e⟩ := List.mem_map.1 this
    exact hole_gone hk (List.getElem?_eq_some_iff.1 e.symm).1
  exact ⟨hstep, OwnsAll.filled hown hnd hgone, (hs.env.up hst.le).put (by rw [hs.size]; simpa using hd) hv, by simp [Act.put, hs.size], hs.defers⟩
theorem St.callE {α : Type} {f : FuncId} {xs : List AV} {h0 : List Own} {ok : α → Prop} {h1 : α → List Own} {res : α → AV} (ks : List Nat) (hs : St c I H Γ a w) (hf : FnE P f xs h0 ok h1 res) (hargs : ∀ I a, EnvOk I a Γ → true = true → HoldsA I xs (ys.map a.eval).toList) (hks : ks.map (fun k => H[k]?) = h0.map some) (hnd : decide ks.Nodup = true) (hd : Nat.blt d c.n = true)
    (k : ∀ x I' a' w', ok x → St c I' (fill (hole H ks) ks (h1 x)) ((d, res x) :: Γ) a' w' → wpList P ops Q rest a' w') : wpList P ops Q (⟨some d, .call ⟨.value (.func f), ys, ts⟩, ty, p, af, none⟩ :: rest) a w := by
  refine wpList_here rfl ?_
  unfold Oper.wp
  rw [run_callF hf.1 rfl, Oper.upon_enter]
  have hnd := of_decide_eq_true hnd
  have hown : OwnsAll (blks h0) I w h0 := (hs.own.pick hks hnd).exact
  refine Calls.mono (hf.2 I w _ hs.step.models hown (hargs I a hs.env rfl)) fun e w' he => ?_
  cases e with
  | panicked _ => exact he.elim
  | outgrown => exact he.elim
  | returned v =>
    obtain ⟨x, I', hx, hst, ho, hv⟩ := he
    exact k x I' _ w' hx (hs.calledE ks hks hnd hst ho hv hd)
def FnO (P : Program) (f : FuncId) (args : List AV) (E : TypeId) (sz : Nat) (l : List (List AV)) : Prop := FnE P f args [] (fun _ : Value => True) (fun v => [Own.row v E sz l]) AV.val
theorem FnO.intro {f : FuncId} {fn : Func} {code : Code} {args : List AV} {E : TypeId} {sz : Nat} {l : List (List AV)} (N : Nat) (hf : P.funcs[f]? = some fn) (hb : fn.body = some code) (hn : fn.ntmps = N) (hN : Nat.ble args.length N = true) (hname : (fn.name == "runtime.NumGoroutine") = false)
    (h : ∀ (W : World) (I : Im) (a : Act), St ⟨W, I, N, blks []⟩ I [] (argsEnv 0 args) a W → code.wp P (bodyPost P fn (RetE ⟨W, I, N, blks []⟩ (fun _ : Value => True) (fun v => [Own.row v E sz l]) AV.val)) a W) : FnO P f args E sz l := FnE.intro N hf hb hn hN hname h
theorem blks_nil : blks [] = noF := by funext b; simp [blks, noF]
theorem StepF.none {I I' : Im} {w w' : World} (h : StepF (blks []) I w I' w') : Step I w I' w' := StepF.all (blks_nil ▸ h)
theorem own_frozen {I0 I : Im} {W0 w : World} {v : Value} {E : TypeId} {sz : Nat} {l : List (List AV)} (hst : StepF (blks []) I0 W0 I w) (ho : OwnsAll (Ctx.own ⟨W0, I0, 0, blks []⟩) I w [Own.row v E sz l]) : ∃ I', Step I0 W0 I' w ∧ (AV.rows sz l).h I' v := by
  have hs : St ⟨W0, I0, 0, blks []⟩ I [Own.row v E sz l] [] { tmps := #[], defers := [] } w := ⟨hst, ho, fun t x e => by simp [Env.get] at e, rfl, rfl⟩
  obtain ⟨I', hs', hv⟩ := hs.freezeRow 0 rfl
  exact ⟨I', StepF.none hs'.step, hv⟩
theorem FnO.fn {f : FuncId} {args : List AV} {E : TypeId} {sz : Nat} {l : List (List AV)} (h : FnO P f args E sz l) : Fn P f args (.rows sz l) :=
  ⟨h.1, fun I w vs hm ha => (h.2 I w vs hm (OwnsAll.nil _ _ _) ha).mono fun e w' he => by
    cases e with
    | panicked _ => exact he.elim
    | outgrown => exact he.elim
    | returned v =>
      obtain ⟨x, I', _, hst, ho, hx⟩ := he
      obtain rfl : v = x := hx
      obtain ⟨I2, hst2, hv⟩ := own_frozen hst ho
      exact ⟨I2, hst2, hv⟩⟩
theorem St.callO {f : FuncId} {xs : List AV} (hs : St c I H Γ a w) (hf : FnO P f xs E sz l) (hargs : ∀ I a, EnvOk I a Γ → true = true → HoldsA I xs (ys.map a.eval).toList) (hd : Nat.blt d c.n = true)
    (k : ∀ I' v a' w', St c I' (H ++ [Own.row v E sz l]) ((d, .val v) :: Γ) a' w' → wpList P ops Q rest a' w') : wpList P ops Q (⟨some d, .call ⟨.value (.func f), ys, ts⟩, ty, p, af, none⟩ :: rest) a w :=
  hs.callE [] hf hargs rfl (by decide) hd fun v I' a' w' _ h => k I' v a' w' h
def FnM (P : Program) (f : FuncId) (args : List AV) (h0 h1 : List Own) (res : AV) : Prop := FnE P f args h0 (fun _ : Unit => True) (fun _ => h1) (fun _ => res)
theorem FnM.intro {f : FuncId} {fn : Func} {code : Code} {args : List AV} {h0 h1 : List Own} {res : AV} (N : Nat) (hf : P.funcs[f]? = some fn) (hb : fn.body = some code) (hn : fn.ntmps = N) (hN : Nat.ble args.length N = true) (hname : (fn.name == "runtime.NumGoroutine") = false)
    (h : ∀ (W : World) (I : Im) (a : Act), St ⟨W, I, N, blks h0⟩ I h0 (argsEnv 0 args) a W → code.wp P (bodyPost P fn (RetE ⟨W, I, N, blks h0⟩ (fun _ : Unit => True) (fun _ => h1) (fun _ => res))) a W) : FnM P f args h0 h1 res := FnE.intro N hf hb hn hN hname h
theorem St.callM {f : FuncId} {xs : List AV} {h0 h1 : List Own} {res : AV} (ks : List Nat) (hs : St c I H Γ a w) (hf : FnM P f xs h0 h1 res) (hargs : ∀ I a, EnvOk I a Γ → true = true → HoldsA I xs (ys.map a.eval).toList) (hks : ks.map (fun k => H[k]?) = h0.map some) (hnd : decide ks.Nodup = true) (hd : Nat.blt d c.n = true)
    (k : ∀ I' a' w', St c I' (fill (hole H ks) ks h1) ((d, res) :: Γ) a' w' → wpList P ops Q rest a' w') : wpList P ops Q (⟨some d, .call ⟨.value (.func f), ys, ts⟩, ty, p, af, none⟩ :: rest) a w :=
  hs.callE ks hf hargs hks hnd hd fun _ I' a' w' _ h => k I' a' w' h
def FnX {α : Type} (P : Program) (f : FuncId) (args : List AV) (ok : α → Prop) (res : α → AV) : Prop := FnE P f args [] ok (fun _ => []) res
theorem FnX.intro {α : Type} {f : FuncId} {fn : Func} {code : Code} {args : List AV} {ok : α → Prop} {res : α → AV} (N : Nat) (hf : P.funcs[f]? = some fn) (hb : fn.body = some code) (hn : fn.ntmps = N) (hN : Nat.ble args.length N = true) (hname : (fn.name == "runtime.NumGoroutine") = false)
    (h : ∀ (W : World) (I : Im) (a : Act), St ⟨W, I, N, blks []⟩ I [] (argsEnv 0 args) a W → code.wp P (bodyPost P fn (RetE ⟨W, I, N, blks []⟩ ok (fun _ => []) res)) a W) : FnX P f args ok res := FnE.intro N hf hb hn hN hname h
theorem RunTA.callO {tail : List Oper} {M : Act → List Own} {k : Nat} {os : List Oper} {f : FuncId} {xs : List AV} (hf : FnO P f xs E sz l) (hargs : ∀ I a, EnvOk I a (Γ.only (Oper.looksAt ops ⟨some d, .call ⟨.value (.func f), ys, ts⟩, ty, p, af, none⟩)) → true = true → HoldsA I xs (ys.map a.eval).toList)
    (r : RunTA P c H ops Q tail (fun a => M a ++ [Own.row (a.tmps.getD d undef) E sz l]) (k + 1) ((d, AV.any) :: Γ) os) : RunTA P c H ops Q tail M k Γ (⟨some d, .call ⟨.value (.func f), ys, ts⟩, ty, p, af, none⟩ :: os) := by
  obtain ⟨xs', h1, h2⟩ := r
  refine ⟨(AV.any, some (fun v => Own.row v E sz l)) :: xs', ⟨?_, h1⟩, fun I' a' w' hs => h2 I' a' w' (by simpa [made, runEnv] using hs)⟩
  intro base I a w K Q he hm hw kk
  rw [if_pos (by simp [Region.wanted])]
  unfold Oper.wp
  rw [run_callF hf.1 rfl, Oper.upon_enter]
  refine Calls.mono (hf.2 I w _ hm (OwnsAll.nil _ _ _) (hargs I a he rfl)) fun e w' he => ?_
  cases e with
  | panicked _ => exact he.elim
  | outgrown => exact he.elim
  | returned v =>
    obtain ⟨x, I', _, hst, ho, hx⟩ := he
    obtain rfl : v = x := hx
    refine kk v I' w' trivial (StepF.none hst) fun f hf => ?_
    cases hf
    obtain ⟨q1, q2⟩ := ho.all _ (List.mem_singleton.2 rfl)
    exact ⟨q1, fun b e => ⟨(q2 b e).1.elim id fun h => by rw [blks_nil] at h; exact h.elim, (q2 b e).2⟩⟩
theorem row_form {v : Value} (h : (Own.row v E sz l).ok I w) : ∃ q cap, v = .slice q l.length cap ∧ l.length ≤ cap := by
  obtain ⟨_, ⟨rfl, rfl | ⟨q, rfl, _⟩⟩ | ⟨b, cap, cur, rfl, h0, hb, h3, _⟩⟩ := h
  · exact ⟨none, 0, rfl, Nat.le_refl _⟩
  · exact ⟨some q, 0, rfl, Nat.le_refl _⟩
  · exact ⟨_, cap, rfl, h3⟩
theorem St.oneRow {v : Value} (k : Nat) (hs : St c I H Γ a w) (hk : H[k]? = some (Own.row v E sz l)) : (AV.val v).One := by
  obtain ⟨q, cap, e, _⟩ := row_form (hs.own.all _ (List.mem_of_getElem? hk)).1
  exact one_val (by rw [e]; rfl)
theorem St.rowBlock {v : Value} (k : Nat) (hs : St c I H Γ a w) (hk : H[k]? = some (Own.row v E sz l)) (hl : 0 < l.length) : ∃ b cap, v = .slice (some ⟨b, 0, none⟩) l.length cap := by
  obtain ⟨_, ⟨rfl, _⟩ | ⟨b, cap, cur, e, _⟩⟩ := (hs.own.all _ (List.mem_of_getElem? hk)).1
  · simp at hl
  · exact ⟨b, cap, e⟩
end
end Go.Proofs.YtkoebplikhlapaaGreatDoor
