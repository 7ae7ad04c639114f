/- What one operation of a region does, said of abstract values: the operations that read, compute, or make persistent memory. -/
import Derived.Test.YtlppgilifnkapaaGreatCore
set_option linter.unusedVariables false
set_option linter.unusedSimpArgs false
namespace Go.Proofs.YtlppgilifnkapaaGreat
open Go Go.RowKit

section
variable {P : Program} {H : List Own} {Γ : Env} {g : Bool}

theorem ok_of_run {o : Oper} {x : AV}
    (h : ∀ (base : Nat) I a w, EnvOk I a Γ → Models w I → OwnsAll base I w H → g = true → ∃ v, (execOp a.eval o).run P w = .ok (.value v) w ∧ x.h I v) : Ok P H Γ g o x :=
  fun base I a w K Q he hm hw hg k => by
    obtain ⟨v, hr, hx⟩ := h base I a w he hm hw hg
    unfold Oper.wp
    rw [hr]
    exact k v I w hx (Step.refl hm)

/-- An operation of which the value is known outright. -/
theorem ok_val {o : Oper} {v : Value}
    (h : ∀ I a w, EnvOk I a Γ → g = true → (execOp a.eval o).run P w = .ok (.value v) w) : Ok P H Γ g o (.val v) :=
  ok_of_run fun _ I a w he _ _ hg => ⟨v, h I a w he hg, rfl⟩

theorem ok_move {d : Option Tmp} {y : Operand} {ty : TypeId} {p : String} {af : Array Edge} {gd : Option (Nat × Bool)} {x : AV} (h : At Γ g y x) :
    Ok P H Γ g ⟨d, .move y, ty, p, af, gd⟩ x :=
  ok_of_run fun _ I a w he _ _ hg => ⟨_, rfl, h I a he hg⟩
theorem ok_assign {d : Option Tmp} {y : Operand} {ty : TypeId} {p : String} {af : Array Edge} {gd : Option (Nat × Bool)} {x : AV} (h : At Γ g y x) :
    Ok P H Γ g ⟨d, .assign y, ty, p, af, gd⟩ x :=
  ok_of_run fun _ I a w he _ _ hg => ⟨_, rfl, h I a he hg⟩

/-- '&&': the second part is there where the first holds. -/
theorem ok_and {d : Option Tmp} {cc aa bb : Operand} {ty : TypeId} {p : String} {af : Array Edge} {gd : Option (Nat × Bool)} {b x : Bool}
    (hc : At Γ g cc (.bool b)) (ha : At Γ g aa (.cond b (.bool x))) (hb : At Γ g bb (.bool false)) :
    Ok P H Γ g ⟨d, .pick cc aa bb, ty, p, af, gd⟩ (.bool (b && x)) := by
  refine ok_val fun I a w he hg => ?_
  have h1 : a.eval cc = .bool b := hc I a he hg
  have h3 : a.eval bb = .bool false := hb I a he hg
  have h2 := ha I a he hg
  cases b
  · simp [execOp, h1, h3, asBool, Sem.run_bind]
  · have h2' : a.eval aa = .bool x := h2.1 rfl
    simp [execOp, h1, h2', asBool, Sem.run_bind]
/-- '||': the second part is there where the first does not hold. -/
theorem ok_or {d : Option Tmp} {cc aa bb : Operand} {ty : TypeId} {p : String} {af : Array Edge} {gd : Option (Nat × Bool)} {b x : Bool}
    (hc : At Γ g cc (.bool b)) (ha : At Γ g aa (.bool true)) (hb : At Γ g bb (.cond (!b) (.bool x))) :
    Ok P H Γ g ⟨d, .pick cc aa bb, ty, p, af, gd⟩ (.bool (b || x)) := by
  refine ok_val fun I a w he hg => ?_
  have h1 : a.eval cc = .bool b := hc I a he hg
  have h3 : a.eval aa = .bool true := ha I a he hg
  have h2 := hb I a he hg
  cases b
  · have h2' : a.eval bb = .bool x := h2.1 rfl
    simp [execOp, h1, h2', asBool, Sem.run_bind]
  · simp [execOp, h1, h3, asBool, Sem.run_bind]

variable {d : Option Tmp} {y z : Operand} {ty T T' : TypeId} {p : String} {af : Array Edge} {gd : Option (Nat × Bool)}

theorem ok_not {b : Bool} (h : At Γ g y (.bool b)) : Ok P H Γ g ⟨d, .unOp .not T y, ty, p, af, gd⟩ (.bool (!b)) :=
  ok_val fun I a w he hg => by have h1 : a.eval y = .bool b := h I a he hg; simp only [execOp, h1]; simp [go_sem]
theorem ok_neg {n : Int} (h : At Γ g y (.int n)) : Ok P H Γ g ⟨d, .unOp .neg T y, ty, p, af, gd⟩ (.int (IntKind.i64.wrap (-n))) :=
  ok_val fun I a w he hg => by have h1 : a.eval y = .int .i64 n := h I a he hg; simp only [execOp, h1]; simp [go_sem]

theorem ok_add {m n : Int} (hy : At Γ g y (.int m)) (hz : At Γ g z (.int n)) (hb : g = true → -9223372036854775808 ≤ m + n ∧ m + n ≤ 9223372036854775807) :
    Ok P H Γ g ⟨d, .binOp .add T y z T', ty, p, af, gd⟩ (.int (m + n)) :=
  ok_val fun I a w he hg => by
    have h1 : a.eval y = .int .i64 m := hy I a he hg
    have h2 : a.eval z = .int .i64 n := hz I a he hg
    have h3 : IntKind.i64.wrap (m + n) = m + n := IntWalk.i64_in _ (hb hg)
    simp only [execOp, h1, h2]; simp [go_sem, eqGuard, binOp, Op.intArith, h3]
theorem ok_sub {m n : Int} (hy : At Γ g y (.int m)) (hz : At Γ g z (.int n)) (hb : g = true → -9223372036854775808 ≤ m - n ∧ m - n ≤ 9223372036854775807) :
    Ok P H Γ g ⟨d, .binOp .sub T y z T', ty, p, af, gd⟩ (.int (m - n)) :=
  ok_val fun I a w he hg => by
    have h1 : a.eval y = .int .i64 m := hy I a he hg
    have h2 : a.eval z = .int .i64 n := hz I a he hg
    have h3 : IntKind.i64.wrap (m - n) = m - n := IntWalk.i64_in _ (hb hg)
    simp only [execOp, h1, h2]; simp [go_sem, eqGuard, binOp, Op.intArith, h3]
theorem ok_mul {m n : Int} (hy : At Γ g y (.int m)) (hz : At Γ g z (.int n)) (hb : g = true → -9223372036854775808 ≤ m * n ∧ m * n ≤ 9223372036854775807) :
    Ok P H Γ g ⟨d, .binOp .mul T y z T', ty, p, af, gd⟩ (.int (m * n)) :=
  ok_val fun I a w he hg => by
    have h1 : a.eval y = .int .i64 m := hy I a he hg
    have h2 : a.eval z = .int .i64 n := hz I a he hg
    have h3 : IntKind.i64.wrap (m * n) = m * n := IntWalk.i64_in _ (hb hg)
    simp only [execOp, h1, h2]; simp [go_sem, eqGuard, binOp, Op.intArith, h3]
theorem ok_lss {m n : Int} (hy : At Γ g y (.int m)) (hz : At Γ g z (.int n)) :
    Ok P H Γ g ⟨d, .binOp .lss T y z T', ty, p, af, gd⟩ (.bool (decide (m < n))) :=
  ok_val fun I a w he hg => by
    have h1 : a.eval y = .int .i64 m := hy I a he hg
    have h2 : a.eval z = .int .i64 n := hz I a he hg
    simp only [execOp, h1, h2]; simp [go_sem, eqGuard, binOp, Op.intCmp]
theorem ok_leq {m n : Int} (hy : At Γ g y (.int m)) (hz : At Γ g z (.int n)) :
    Ok P H Γ g ⟨d, .binOp .leq T y z T', ty, p, af, gd⟩ (.bool (decide (m ≤ n))) :=
  ok_val fun I a w he hg => by
    have h1 : a.eval y = .int .i64 m := hy I a he hg
    have h2 : a.eval z = .int .i64 n := hz I a he hg
    simp only [execOp, h1, h2]; simp [go_sem, eqGuard, binOp, Op.intCmp]
theorem ok_gtr {m n : Int} (hy : At Γ g y (.int m)) (hz : At Γ g z (.int n)) :
    Ok P H Γ g ⟨d, .binOp .gtr T y z T', ty, p, af, gd⟩ (.bool (decide (n < m))) :=
  ok_val fun I a w he hg => by
    have h1 : a.eval y = .int .i64 m := hy I a he hg
    have h2 : a.eval z = .int .i64 n := hz I a he hg
    simp only [execOp, h1, h2]; simp [go_sem, eqGuard, binOp, Op.intCmp]
theorem ok_geq {m n : Int} (hy : At Γ g y (.int m)) (hz : At Γ g z (.int n)) :
    Ok P H Γ g ⟨d, .binOp .geq T y z T', ty, p, af, gd⟩ (.bool (decide (n ≤ m))) :=
  ok_val fun I a w he hg => by
    have h1 : a.eval y = .int .i64 m := hy I a he hg
    have h2 : a.eval z = .int .i64 n := hz I a he hg
    simp only [execOp, h1, h2]; simp [go_sem, eqGuard, binOp, Op.intCmp]
theorem ok_eqi {m n : Int} (hy : At Γ g y (.int m)) (hz : At Γ g z (.int n)) :
    Ok P H Γ g ⟨d, .binOp .eql T y z T', ty, p, af, gd⟩ (.bool (m == n)) :=
  ok_val fun I a w he hg => by
    have h1 : a.eval y = .int .i64 m := hy I a he hg
    have h2 : a.eval z = .int .i64 n := hz I a he hg
    simp only [execOp, h1, h2]; simp [go_sem, eqGuard, binOp, Op.intCmp]
theorem ok_nei {m n : Int} (hy : At Γ g y (.int m)) (hz : At Γ g z (.int n)) :
    Ok P H Γ g ⟨d, .binOp .neq T y z T', ty, p, af, gd⟩ (.bool (m != n)) :=
  ok_val fun I a w he hg => by
    have h1 : a.eval y = .int .i64 m := hy I a he hg
    have h2 : a.eval z = .int .i64 n := hz I a he hg
    simp only [execOp, h1, h2]; simp [go_sem, eqGuard, binOp, Op.intCmp]
theorem ok_subW {m n : Int} (hy : At Γ g y (.int m)) (hz : At Γ g z (.int n)) : Ok P H Γ g ⟨d, .binOp .sub T y z T', ty, p, af, gd⟩ (.int (IntKind.i64.wrap (m - n))) :=
  ok_val fun I a w he hg => by
    have h1 : a.eval y = .int .i64 m := hy I a he hg
    have h2 : a.eval z = .int .i64 n := hz I a he hg
    simp only [execOp, h1, h2]; simp [go_sem, eqGuard, binOp, Op.intArith]
theorem ok_addW {m n : Int} (hy : At Γ g y (.int m)) (hz : At Γ g z (.int n)) : Ok P H Γ g ⟨d, .binOp .add T y z T', ty, p, af, gd⟩ (.int (IntKind.i64.wrap (m + n))) :=
  ok_val fun I a w he hg => by
    have h1 : a.eval y = .int .i64 m := hy I a he hg
    have h2 : a.eval z = .int .i64 n := hz I a he hg
    simp only [execOp, h1, h2]; simp [go_sem, eqGuard, binOp, Op.intArith]
end
end Go.Proofs.YtlppgilifnkapaaGreat
