/- Short forms of the rules: what can be read off the goal is left out. -/
import Derived.Test.YtlppgilifnkapaaGreatStr
import Derived.Test.YtlppgilifnkapaaGreatDraw3
set_option linter.unusedVariables false
set_option linter.unusedSimpArgs false
namespace Go.Proofs.YtlppgilifnkapaaGreat
open Go Go.RowKit

section
variable {Γ : Env} {g g' b : Bool} {t : Nat} {x : AV} {o : Operand}
theorem At.tt (h : Env.get t Γ = some x := by rfl) : At Γ g (.tmp t) x := .t h
theorem At.ag (h : Env.get t Γ = some (AV.cond g' x) := by rfl) (hg : g = true → g' = true := by intro hg; first | exact hg | exact (Bool.and_eq_true_iff.1 hg).1 | exact (Bool.and_eq_true_iff.1 (Bool.and_eq_true_iff.1 hg).1).1) : At Γ g (.tmp t) x := .g h hg
theorem At.r (h : At Γ g o x := by first | exact .t rfl | exact .nil (.t rfl)) : At Γ g o x := h
theorem At.pc (h : At Γ g o x := by first | exact .t rfl | exact .gc rfl (fun hg => hg) | exact .gc rfl (fun hg => (Bool.and_eq_true_iff.1 hg).1)) : At Γ g o x := h
end
section
variable {P : Program} {c : Ctx} {I : Im} {H : List Own} {Γ : Env} {a : Act} {w : World} {Q : Exit → Act → World → Prop} {ops : Array Oper} {rest os : List Oper} {g G b : Bool} {x : AV} {d t j : Nat} {op : Op} {ty : TypeId} {p : String} {af : Array Edge} {gd : Option (Nat × Bool)} {y : Operand} {v : Value}
theorem Guarded.T {o : Oper} (h : o.guard = some (j, true) := by rfl) (hj : (ops[j]?).bind (·.dst) = some t := by rfl) (ht : Env.get t Γ = some (.bool b) := by rfl) : Guarded ops Γ o b := guarded_T h hj ht
theorem Guarded.F {o : Oper} (h : o.guard = some (j, false) := by rfl) (hj : (ops[j]?).bind (·.dst) = some t := by rfl) (ht : Env.get t Γ = some (.bool b) := by rfl) : Guarded ops Γ o (!b) := guarded_F h hj ht
theorem Guarded.T2 {o : Oper} (h : o.guard = some (j, true) := by rfl) (hj : (ops[j]?).bind (·.dst) = some t := by rfl) (ht : Env.get t Γ = some (.cond g (.bool b)) := by rfl) : Guarded ops Γ o (g && b) := guarded_T2 h hj ht
theorem Guarded.F2 {o : Oper} (h : o.guard = some (j, false) := by rfl) (hj : (ops[j]?).bind (·.dst) = some t := by rfl) (ht : Env.get t Γ = some (.cond g (.bool b)) := by rfl) : Guarded ops Γ o (g && !b) := guarded_F2 h hj ht
theorem St.o (hs : St c I H Γ a w) (ok : Ok P H Γ true ⟨some d, op, ty, p, af, none⟩ x) (k : ∀ {I' a' w'}, St c I' H ((d, x) :: Γ) a' w' → wpList P ops Q rest a' w') (hd : Nat.blt d c.n = true := by rfl) : wpList P ops Q (⟨some d, op, ty, p, af, none⟩ :: rest) a w := hs.op rfl rfl hd ok fun _ _ _ h => k h
theorem St.m (hs : St c I H Γ a w) (k : ∀ {I' a' w'}, St c I' H ((d, x) :: Γ) a' w' → wpList P ops Q rest a' w') (hy : Env.get t Γ = some x := by rfl) (hd : Nat.blt d c.n = true := by rfl) : wpList P ops Q (⟨some d, .move (.tmp t), ty, p, af, none⟩ :: rest) a w := hs.op rfl rfl hd (ok_move (.t hy)) fun _ _ _ h => k h
theorem St.s (hs : St c I H Γ a w) (k : ∀ {I' a' w'}, St c I' H ((d, x) :: Γ) a' w' → wpList P ops Q rest a' w') (hy : Env.get t Γ = some x := by rfl) (hd : Nat.blt d c.n = true := by rfl) : wpList P ops Q (⟨some d, .assign (.tmp t), ty, p, af, none⟩ :: rest) a w := hs.op rfl rfl hd (ok_assign (.t hy)) fun _ _ _ h => k h
theorem St.mc (hs : St c I H Γ a w) (k : ∀ {I' a' w'}, St c I' H ((d, .val v) :: Γ) a' w' → wpList P ops Q rest a' w') (hd : Nat.blt d c.n = true := by rfl) : wpList P ops Q (⟨some d, .move (.const v), ty, p, af, none⟩ :: rest) a w := hs.op rfl rfl hd (ok_move .c) fun _ _ _ h => k h
theorem St.sc (hs : St c I H Γ a w) (k : ∀ {I' a' w'}, St c I' H ((d, .val v) :: Γ) a' w' → wpList P ops Q rest a' w') (hd : Nat.blt d c.n = true := by rfl) : wpList P ops Q (⟨some d, .assign (.const v), ty, p, af, none⟩ :: rest) a w := hs.op rfl rfl hd (ok_assign .c) fun _ _ _ h => k h
theorem St.q (hs : St c I H Γ a w) (hg : Guarded ops Γ ⟨some d, op, ty, p, af, gd⟩ G) (ok : Ok P H Γ G ⟨some d, op, ty, p, af, gd⟩ x) (k : ∀ {I' a' w'}, St c I' H ((d, .cond G x) :: Γ) a' w' → wpList P ops Q rest a' w') (hd : Nat.blt d c.n = true := by rfl) : wpList P ops Q (⟨some d, op, ty, p, af, gd⟩ :: rest) a w := hs.opG hg rfl hd ok fun _ _ _ h => k h
theorem RunK.o {o : Oper} (ok : Ok P H (Γ.only (o.looksAt ops)) true o x) (k : RunK P c H ops Q ((o.dst.getD 0, x) :: Γ) os) (hg : o.guard = none := by rfl) : RunK P c H ops Q Γ (o :: os) := .cons (.of hg ok) k
theorem RunK.q {o : Oper} (hg : Guarded ops (Γ.only (o.looksAt ops)) o G) (ok : Ok P H (Γ.only (o.looksAt ops)) G o x) (k : RunK P c H ops Q ((o.dst.getD 0, AV.cond G x) :: Γ) os) : RunK P c H ops Q Γ (o :: os) := .cons (.ofG hg ok) k
theorem St.dk {id : Nat} {l : List Oper} (hs : St c I H Γ a w) (run : RunK P c H l.toArray Q Γ l) (hm : P.follows .mixedOrders = true := by kernel_rfl) (hchk : drawChk l = true := by kernel_rfl) (hd : (l.all fun o => Nat.blt (o.dst.getD 0) c.n) = true := by rfl) : (Code.region id l.toArray true).wp P Q a w := hs.drawK hm hchk hd run
end
/-- What a branch knows, in its plain form. -/
theorem B : (∀ (p : Prop) [Decidable p], (decide p = true) = p) ∧ (∀ (p : Prop) [Decidable p], (decide p = false) ↔ ¬p) ∧ (∀ b : Bool, ((!b) = true) = (b = false)) ∧ (∀ b : Bool, ((!b) = false) = (b = true)) ∧ (∀ a b : Bool, ((a && b) = true) = (a = true ∧ b = true)) ∧
    (∀ a b : Bool, ((a || b) = true) = (a = true ∨ b = true)) ∧ (∀ a b : Bool, ((a && b) = false) ↔ (a = false ∨ b = false)) ∧ (∀ a b : Bool, ((a || b) = false) ↔ (a = false ∧ b = false)) ∧ (∀ (α : Type) [BEq α] [LawfulBEq α] (a b : α), (a == b) = true ↔ a = b) ∧ (∀ (α : Type) [BEq α] [LawfulBEq α] (a b : α), (a != b) = true ↔ ¬a = b) ∧
    (∀ (α : Type) [BEq α] [LawfulBEq α] (a b : α), (a != b) = false ↔ a = b) ∧ (∀ (α : Type) [BEq α] [LawfulBEq α] (a b : α), (a == b) = false ↔ ¬a = b) ∧
    (∀ a b : Int, (¬a < b) ↔ b ≤ a) ∧ (∀ a b : Int, (¬a ≤ b) ↔ b < a) ∧ (∀ n m : Nat, ((n : Int) < m) ↔ n < m) ∧ (∀ n m : Nat, ((n : Int) ≤ m) ↔ n ≤ m) :=
  ⟨fun _ _ => decide_eq_true_eq, fun _ _ => decide_eq_false_iff_not, fun b => by simp, fun b => by simp, Bool.and_eq_true, Bool.or_eq_true, fun _ _ => Bool.and_eq_false_iff, fun _ _ => Bool.or_eq_false_iff, fun _ _ _ _ _ => beq_iff_eq, fun _ _ _ _ _ => bne_iff_ne, fun _ _ _ _ _ => bne_eq_false_iff_eq, fun _ _ _ _ _ => beq_eq_false_iff_ne, fun _ _ => Int.not_lt, fun _ _ => Int.not_le, fun _ _ => Int.ofNat_lt, fun _ _ => Int.ofNat_le⟩
end Go.Proofs.YtlppgilifnkapaaGreat
