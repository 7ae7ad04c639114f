/- Part 9: rules of the proofs, contracts of functions, plain facts. -/
import Derived.Laws.BytesString
import Derived.Laws.DeepStrings4
import Derived.Lib.SlBytesRow
import Derived.Lib.Strings
import Derived.Lib.ItoaLen
import Derived.Test.YtkoebplikhlapaaGreatDoorP06
import Derived.Test.YtkoebplikhlapaaGreatDoorP08
set_option linter.unusedVariables false
set_option linter.unusedSimpArgs false
namespace Go.Proofs.YtkoebplikhlapaaGreatDoor
open Go Go.RowKit
abbrev AV.text (l : List UInt8) : AV := .val (.string ⟨l.toArray⟩)
abbrev AV.u8 (n : Int) : AV := .val (.int .u8 n)
abbrev AV.byte (x : UInt8) : AV := .u8 (x.toNat : Int)
section
variable {P : Program} {H : List Own} {Γ : Env} {g : Bool} {d : Option Tmp} {y z z' : Operand} {ty T T' E : TypeId} {p : String} {af : Array Edge} {gd : Option (Nat × Bool)} {n m : Nat} {zv : Value} {k k' : List UInt8}
theorem text_size (l : List UInt8) : (⟨l.toArray⟩ : ByteArray).size = l.length := rfl
theorem text_append (k l : List UInt8) : (⟨k.toArray⟩ : ByteArray) ++ ⟨l.toArray⟩ = ⟨(k ++ l).toArray⟩ := by
  apply ByteArray.ext
  simp [ByteArray.data_append]
theorem text_toList (l : List UInt8) : (⟨l.toArray⟩ : ByteArray).toList = l := by
  rw [ByteArray.toList_eq]
theorem ok_cat (hy : At Γ g y (.text k)) (hz : At Γ g z (.text k')) (hb : g = true → k.length + k'.length ≤ 9223372036854775807) :
    Ok P H Γ g ⟨d, .binOp .add T y z T', ty, p, af, gd⟩ (.text (k ++ k')) :=
  ok_val fun I a w he hg => by
    have h1 : a.eval y = _ := hy I a he hg
    have h2 : a.eval z = _ := hz I a he hg
    have := run_string_add_sum (P := P) w ⟨k.toArray⟩ ⟨k'.toArray⟩ (by simpa [text_size] using hb hg)
    simp only [execOp, h1, h2]
    simp [go_sem, eqGuard, binOp, this, text_append]
theorem ok_eqT (hy : At Γ g y (.text k)) (hz : At Γ g z (.text k')) : Ok P H Γ g ⟨d, .binOp .eql T y z T', ty, p, af, gd⟩ (.bool (k == k')) :=
  ok_val fun I a w he hg => by
    have h1 : a.eval y = _ := hy I a he hg
    have h2 : a.eval z = _ := hz I a he hg
    simp only [execOp, h1, h2]
    simp [go_sem, eqGuard, binOp, Op.stringOp, text_toList]
theorem ok_neT (hy : At Γ g y (.text k)) (hz : At Γ g z (.text k')) : Ok P H Γ g ⟨d, .binOp .neq T y z T', ty, p, af, gd⟩ (.bool (k != k')) :=
  ok_val fun I a w he hg => by
    have h1 : a.eval y = _ := hy I a he hg
    have h2 : a.eval z = _ := hz I a he hg
    simp only [execOp, h1, h2]
    simp [go_sem, eqGuard, binOp, Op.stringOp, text_toList, bne]
theorem ok_lenT (hT : P.underlying T = some .string) (h : At Γ g y (.text k)) : Ok P H Γ g ⟨d, .call ⟨.builtin .len, #[y], #[T]⟩, ty, p, af, gd⟩ (.int k.length) :=
  ok_lenS hT h
theorem ok_idxT {i : Int} (hT : P.underlying T = some .string) (hy : At Γ g y (.text k)) (hz : At Γ g z (.int i)) (hb : g = true → 0 ≤ i ∧ i < k.length) : Ok P H Γ g ⟨d, .index T y z, ty, p, af, gd⟩ (.byte (k.getD i.toNat 0)) :=
  ok_val fun I a w he hg => by
    have h1 : a.eval y = _ := hy I a he hg
    have h2 : a.eval z = _ := hz I a he hg
    obtain ⟨b0, b1⟩ := hb hg
    have hi : 0 ≤ i ∧ i < ((⟨k.toArray⟩ : ByteArray).size : Int) := ⟨b0, by rw [text_size]; exact b1⟩
    have := run_index_string (P := P) w T ⟨k.toArray⟩ .i64 i hT
    rw [dif_pos hi] at this
    simp only [execOp, h1, h2, Sem.run_bind, this, Result.andThen_ok, Sem.run_pure]
    have hl : i.toNat < k.length := by omega
    have e : (⟨k.toArray⟩ : ByteArray)[i.toNat]'(by rw [text_size]; exact hl) = k[i.toNat] := rfl
    rw [e, List.getD_eq_getElem?_getD, List.getElem?_eq_getElem hl]; rfl
theorem text_extract (k : List UInt8) (i j : Nat) (h : j ≤ k.length) : (⟨k.toArray⟩ : ByteArray).extract i j = ⟨((k.drop i).take (j - i)).toArray⟩ := by
  apply ByteArray.ext
  apply Array.toList_inj.1
  rw [Lib.extract_data]
theorem ok_slT {lo hi : Int} (hT : P.underlying T = some .string) (h : At Γ g y (.text k)) (h1 : At Γ g z (.int lo)) (h2 : At Γ g z' (.int hi)) (hb : g = true → 0 ≤ lo ∧ lo ≤ hi ∧ hi ≤ k.length) :
    Ok P H Γ g ⟨d, .slice T y (some z) (some z') none, ty, p, af, gd⟩ (.text ((k.drop lo.toNat).take (hi.toNat - lo.toNat))) :=
  ok_val fun I a w he hg => by
    obtain ⟨b0, b1, b2⟩ := hb hg
    have e0 : a.eval y = _ := h I a he hg
    have e1 : a.eval z = _ := h1 I a he hg
    have e2 : a.eval z' = _ := h2 I a he hg
    have := run_slice_string_if (P := P) w T ⟨k.toArray⟩ .i64 .i64 lo hi hT
    rw [if_pos ⟨by omega, by rw [text_size]; exact b2⟩, if_pos ⟨b0, b1⟩] at this
    have ha : (Instr.sliceAt T (.string ⟨k.toArray⟩) (some (.int .i64 lo)) (some (.int .i64 hi)) none).run P w = _ := (run_sliceAt_string (P := P) w T _ _ _ _ hT).trans this
    simp only [execOp, Option.map_some, Option.map_none, e0, e1, e2, Sem.run_bind, ha, Result.andThen_ok, Sem.run_pure]
    rw [text_extract k _ _ (by omega)]
theorem ok_slTL {lo : Int} (hT : P.underlying T = some .string) (h : At Γ g y (.text k)) (h1 : At Γ g z (.int lo)) (hb : g = true → 0 ≤ lo ∧ lo ≤ k.length) :
    Ok P H Γ g ⟨d, .slice T y (some z) none none, ty, p, af, gd⟩ (.text (k.drop lo.toNat)) :=
  ok_val fun I a w he hg => by
    obtain ⟨b0, b1⟩ := hb hg
    have e0 : a.eval y = _ := h I a he hg
    have e1 : a.eval z = _ := h1 I a he hg
    have := run_slice_string_from_if (P := P) w T ⟨k.toArray⟩ .i64 lo hT
    rw [if_pos ⟨b0, by rw [text_size]; exact b1⟩] at this
    have ha : (Instr.sliceAt T (.string ⟨k.toArray⟩) (some (.int .i64 lo)) none none).run P w = _ := (run_sliceAt_string (P := P) w T _ _ _ _ hT).trans this
    simp only [execOp, Option.map_some, Option.map_none, e0, e1, Sem.run_bind, ha, Result.andThen_ok, Sem.run_pure]
    rw [text_extract k _ _ (by rw [text_size]; exact Nat.le_refl _), text_size, List.take_of_length_le (by simp)]
theorem ok_eq8 {m n : Int} (hy : At Γ g y (.u8 m)) (hz : At Γ g z (.u8 n)) : Ok P H Γ g ⟨d, .binOp .eql T y z T', ty, p, af, gd⟩ (.bool (m == n)) :=
  ok_val fun I a w he hg => by
    have h1 : a.eval y = .int .u8 m := hy I a he hg
    have h2 : a.eval z = .int .u8 n := hz I a he hg
    simp only [execOp, h1, h2]; simp [go_sem, eqGuard, binOp, Op.intCmp]
theorem ok_lss8 {m n : Int} (hy : At Γ g y (.u8 m)) (hz : At Γ g z (.u8 n)) : Ok P H Γ g ⟨d, .binOp .lss T y z T', ty, p, af, gd⟩ (.bool (decide (m < n))) :=
  ok_val fun I a w he hg => by
    have h1 : a.eval y = .int .u8 m := hy I a he hg
    have h2 : a.eval z = .int .u8 n := hz I a he hg
    simp only [execOp, h1, h2]; simp [go_sem, eqGuard, binOp, Op.intCmp]
theorem ok_gtr8 {m n : Int} (hy : At Γ g y (.u8 m)) (hz : At Γ g z (.u8 n)) : Ok P H Γ g ⟨d, .binOp .gtr T y z T', ty, p, af, gd⟩ (.bool (decide (n < m))) :=
  ok_val fun I a w he hg => by
    have h1 : a.eval y = .int .u8 m := hy I a he hg
    have h2 : a.eval z = .int .u8 n := hz I a he hg
    simp only [execOp, h1, h2]; simp [go_sem, eqGuard, binOp, Op.intCmp]
theorem ok_sub8 {m n : Int} (hy : At Γ g y (.u8 m)) (hz : At Γ g z (.u8 n)) (hb : g = true → 0 ≤ m - n ∧ m - n ≤ 255) : Ok P H Γ g ⟨d, .binOp .sub T y z T', ty, p, af, gd⟩ (.u8 (m - n)) :=
  ok_val fun I a w he hg => by
    have h1 : a.eval y = .int .u8 m := hy I a he hg
    have h2 : a.eval z = .int .u8 n := hz I a he hg
    obtain ⟨b0, b1⟩ := hb hg
    have h3 : IntKind.u8.wrap (m - n) = m - n := by simp only [IntKind.wrap]; simp [IntKind.signed, IntKind.bits]; omega
    simp only [execOp, h1, h2]; simp [go_sem, eqGuard, binOp, Op.intArith, h3]
theorem ok_to8 {m : Int} (hT : (P.underlying T).isSome = true) (hT' : P.underlying T' = some (.int .u8)) (hy : At Γ g y (.int m)) (hb : g = true → 0 ≤ m ∧ m ≤ 255) : Ok P H Γ g ⟨d, .convert T T' y, ty, p, af, gd⟩ (.u8 m) :=
  ok_val fun I a w he hg => by
    have h1 : a.eval y = .int .i64 m := hy I a he hg
    obtain ⟨b0, b1⟩ := hb hg
    have h3 : IntKind.u8.wrap m = m := by simp only [IntKind.wrap]; simp [IntKind.signed, IntKind.bits]; omega
    simp only [execOp, h1]
    have hs := hT
    simp [go_sem, hT, hT', h3]
theorem ok_of8 {m : Int} (hT : (P.underlying T).isSome = true) (hT' : P.underlying T' = some (.int .i64)) (hy : At Γ g y (.u8 m)) (hb : g = true → 0 ≤ m ∧ m ≤ 255) : Ok P H Γ g ⟨d, .convert T T' y, ty, p, af, gd⟩ (.int m) :=
  ok_val fun I a w he hg => by
    have h1 : a.eval y = .int .u8 m := hy I a he hg
    obtain ⟨b0, b1⟩ := hb hg
    have h3 : IntKind.i64.wrap m = m := IntWalk.i64_in _ ⟨by omega, by omega⟩
    simp only [execOp, h1]
    simp [go_sem, hT, hT', h3]
theorem ok_negI {m : Int} (h : At Γ g y (.int m)) (hb : g = true → -9223372036854775808 ≤ -m ∧ -m ≤ 9223372036854775807) : Ok P H Γ g ⟨d, .unOp .neg T y, ty, p, af, gd⟩ (.int (-m)) :=
  ok_val fun I a w he hg => by
    have h1 : a.eval y = .int .i64 m := h I a he hg
    have h3 : IntKind.i64.wrap (-m) = -m := IntWalk.i64_in _ (hb hg)
    simp only [execOp, h1]; simp [go_sem, h3]
theorem ok_text1 {x : Int} (hT : P.underlying T = some (.slice E)) (hE : P.underlying E = some (.int .u8)) (hT' : P.underlying T' = some .string) (hy : At Γ g y (.rows 1 [[.u8 x]])) :
    Ok P H Γ g ⟨d, .convert T T' y, ty, p, af, gd⟩ (.text [UInt8.ofNat x.toNat]) :=
  ok_of_run fun _ I a w he hm _ hg => by
    have hh := hy I a he hg
    obtain ⟨b, off, cap, e, hc⟩ := rows_at (i := 0) hh (by simp)
    rw [Nat.zero_mul, Nat.add_zero] at hc
    obtain ⟨v, hv, hx, _⟩ := cell_of hm hc (i := 0) (x := .u8 x) rfl
    have hx : v = .int .u8 x := hx
    subst hx
    refine ⟨.string ⟨[UInt8.ofNat x.toNat].toArray⟩, ?_, rfl⟩
    simp only [execOp, e, List.length_singleton, Sem.run_bind]
    have hl : (loadCells ⟨b, off, none⟩ 1).run P w = .ok ([x].map (Value.int .u8)).toArray w := by
      simp only [loadCells]
      have hv' : w.cell? ⟨b, off, none⟩ = some (.int .u8 x) := by simpa using hv
      simp [hv', add_plain, go_sem]
    rw [run_convert_bytes_string (P := P) w T T' E _ _ _ hT hE hT', run_bytesToString (P := P) w ⟨b, off, none⟩ 1 cap [x] hl]
    simp only [Result.andThen_ok, Sem.run_pure]
    rfl
end
section
variable {P : Program} {c : Ctx} {I : Im} {H : List Own} {Γ : Env} {a : Act} {w : World} {Q : Exit → Act → World → Prop}
theorem made_none {S : Nat → Bool} : ∀ {k : Nat} {os : List Oper} {xs : List AV}, made S a k os (xs.map fun x => (x, none)) = []
  | _, [], xs => by unfold made; rfl
  | _, _ :: _, [] => by simp [made]
  | k, o :: os, x :: xs => by simp only [List.map_cons, made]; exact made_none
theorem RunOk.toR {ops : Array Oper} : ∀ {Γ : Env} {os : List Oper} {xs : List AV}, RunOk P H ops Γ os xs → RunOkR P H ops Γ os (xs.map fun x => (x, none))
  | _, [], [], _ => trivial
  | _, _ :: _, _ :: _, h => ⟨h.1.r, RunOk.toR h.2⟩
  | _, [], _ :: _, h => h.elim
  | _, _ :: _, [], h => h.elim
def RunT (P : Program) (c : Ctx) (H : List Own) (ops : Array Oper) (Q : Exit → Act → World → Prop) (tail : List Oper) (Γ : Env) (os : List Oper) : Prop :=
  ∃ xs, RunOk P H ops Γ os xs ∧ ∀ I' a' w', St c I' H (runEnv Γ os xs) a' w' → wpList P ops Q tail a' w'
theorem RunT.nil {ops : Array Oper} {tail : List Oper} (k : ∀ I' a' w', St c I' H Γ a' w' → wpList P ops Q tail a' w') : RunT P c H ops Q tail Γ [] := ⟨[], trivial, k⟩
theorem RunT.cons {ops : Array Oper} {tail : List Oper} {o : Oper} {os : List Oper} {x : AV} (h : OpRun P H ops (Γ.only (o.looksAt ops)) o x) (k : RunT P c H ops Q tail ((o.dst.getD 0, x) :: Γ) os) : RunT P c H ops Q tail Γ (o :: os) :=
  let ⟨xs, h1, h2⟩ := k; ⟨x :: xs, ⟨h, h1⟩, h2⟩
theorem St.drawT0 {id : Nat} (pre tail : List Oper) (hs : St c I H Γ a w) (hm : P.follows .mixedOrders = true) (hchk : drawChk2 pre tail = true) (hd : (pre.all fun o => Nat.blt (o.dst.getD 0) c.n) = true)
    (run : RunT P c H (pre ++ tail).toArray Q tail Γ pre) : (Code.region id (pre ++ tail).toArray true).wp P Q a w := by
  obtain ⟨xs, run, k⟩ := run
  refine wp_region_any hm ?_
  have e0 : (xs.map fun x => (x, (none : Mk))).map (·.1) = xs := by rw [List.map_map]; exact List.map_id xs
  obtain ⟨hlen, hrun⟩ := RunOkR.at (Γ0 := Γ) pre (xs.map fun x => (x, none)) 0 [] (by simpa [envOf] using run.toR) (fun e he => by simp at he)
  have hf : ∀ i : Nat, (Array.replicate (pre ++ tail).length false).getD i false = false := fun i => by
    rw [Array.getD_eq_getD_getElem?, Array.getElem?_replicate]; split <;> rfl
  have hm0 : ∀ (S : Nat → Bool) (a : Act), made S a 0 pre (xs.map fun x => (x, (none : Mk))) = [] := fun S a => made_none
  have := draw2_main (P := P) (c := c) (H := H) (Γ := Γ) (Q := Q) hchk hlen (by simpa using hd) (fun i o x ho hx => by simpa using hrun i o x ho hx) (fun I' a' w' h => by
      rw [e0, hm0, List.append_nil, ← runEnv_eq] at h; exact k I' a' w' h) (pre ++ tail).length (Array.replicate (pre ++ tail).length false) I a { w with drawn := w.drawn + 1 } (by simp)
    (by simpa using List.length_filter_le _ (List.range (pre ++ tail).length)) (fun i hi h => by rw [hf] at h; cases h) (fun i o ho hi => by rw [hf] at hi; cases hi) (by
      have he : (ents 0 pre ((xs.map fun x => (x, (none : Mk))).map (·.1))).reverse.filter (fun e => (Array.replicate (pre ++ tail).length false).getD e.1 false) = [] := by
        rw [List.filter_eq_nil_iff]; intro e _; rw [hf]; simp
      rw [he, hm0, List.append_nil]
      exact ⟨⟨hs.step.le, hs.step.old, hs.step.models, hs.step.below.drew⟩, ⟨fun o ho => ⟨o.keep I I w _ (Im.le_refl I) (fun _ _ => rfl) (hs.own.all o ho).1, (hs.own.all o ho).2⟩, hs.own.nodup⟩, hs.env, hs.size, hs.defers⟩)
  simpa using this
def mkBox (T : TypeId) (l : List AV) : Value → Own
  | .pointer (some ⟨b, 0, none⟩) => Own.box b T l
  | _ => Own.gone
def AV.newp : AV := ⟨fun _ v => ∃ b, v = .pointer (some ⟨b, 0, none⟩), fun _ _ _ _ h => h⟩
def RunTA (P : Program) (c : Ctx) (H : List Own) (ops : Array Oper) (Q : Exit → Act → World → Prop) (tail : List Oper) (M : Act → List Own) (k : Nat) (Γ : Env) (os : List Oper) : Prop :=
  ∃ xs, RunOkR P H ops Γ os xs ∧ ∀ I' a' w', St c I' (H ++ (M a' ++ made (fun _ => true) a' k os xs)) (runEnv Γ os (xs.map (·.1))) a' w' → wpList P ops Q tail a' w'
theorem RunTA.nil {ops : Array Oper} {tail : List Oper} {M : Act → List Own} {k : Nat} (h : ∀ I' a' w', St c I' (H ++ M a') Γ a' w' → wpList P ops Q tail a' w') : RunTA P c H ops Q tail M k Γ [] :=
  ⟨[], trivial, fun I' a' w' hs => h I' a' w' (by simpa [made, runEnv] using hs)⟩
theorem RunTA.cons {ops : Array Oper} {tail : List Oper} {M : Act → List Own} {k : Nat} {o : Oper} {os : List Oper} {x : AV} (h : OpRun P H ops (Γ.only (o.looksAt ops)) o x) (r : RunTA P c H ops Q tail M (k + 1) ((o.dst.getD 0, x) :: Γ) os) : RunTA P c H ops Q tail M k Γ (o :: os) :=
  let ⟨xs, h1, h2⟩ := r
  ⟨(x, none) :: xs, ⟨h.r, h1⟩, fun I' a' w' hs => h2 I' a' w' (by simpa [made, runEnv] using hs)⟩
theorem RunTA.alloc {ops : Array Oper} {tail : List Oper} {M : Act → List Own} {k d : Nat} {os : List Oper} {T ty : TypeId} {p : String} {af : Array Edge} {ag : Bool} {n m : Nat} {zv : Value} {l : List AV} (hT : Ty P T ag n m zv) (hz : ∀ I, HoldsL I l zv.cells.toList)
    (r : RunTA P c H ops Q tail (fun a => M a ++ [mkBox T l (a.tmps.getD d undef)]) (k + 1) ((d, AV.newp) :: Γ) os) : RunTA P c H ops Q tail M k Γ (⟨some d, .alloc T, ty, p, af, none⟩ :: os) := by
  obtain ⟨xs, h1, h2⟩ := r
  refine ⟨(AV.newp, some (mkBox T l)) :: xs, ⟨?_, h1⟩, fun I' a' w' hs => h2 I' a' w' (by simpa [made, runEnv] using hs)⟩
  intro base I a w K Q he hm hw kk
  rw [if_pos (by simp [Region.wanted])]
  unfold Oper.wp
  have hzr : (zeroValue T).run P w = .ok zv w := hT.zero
  simp only [execOp, Instr.alloc, Sem.run_bind, hzr, Result.andThen_ok, run_newVar, Sem.run_pure, Oper.upon_value]
  refine kk _ I _ ⟨_, rfl⟩ (Step.alloc hm _) fun f hf => ?_
  cases hf
  refine ⟨⟨_, heap_alloc_get w _, hz I⟩, fun b hb => ?_⟩
  cases hb
  exact ⟨Nat.le_refl _, hm.none (Nat.le_refl _), by simp⟩
theorem St.drawA0 {id : Nat} (pre tail : List Oper) (hs : St c I H Γ a w) (hm : P.follows .mixedOrders = true) (hchk : drawChk2 pre tail = true) (hd : (pre.all fun o => Nat.blt (o.dst.getD 0) c.n) = true)
    (run : RunTA P c H (pre ++ tail).toArray Q tail (fun _ => []) 0 Γ pre) : (Code.region id (pre ++ tail).toArray true).wp P Q a w := by
  obtain ⟨xs, run, k⟩ := run
  refine wp_region_any hm ?_
  obtain ⟨hlen, hrun⟩ := RunOkR.at (Γ0 := Γ) pre xs 0 [] (by simpa [envOf] using run) (fun e he => by simp at he)
  have hf : ∀ i : Nat, (Array.replicate (pre ++ tail).length false).getD i false = false := fun i => by
    rw [Array.getD_eq_getD_getElem?, Array.getElem?_replicate]; split <;> rfl
  have hm0 : ∀ (a : Act), made (fun i => (Array.replicate (pre ++ tail).length false).getD i false) a 0 pre xs = [] := fun a => by
    rw [made_same (S' := fun _ => false) fun i o x f _ _ => hf _]
    have key : ∀ (k : Nat) (os : List Oper) (xs : List (AV × Mk)), made (fun _ => false) a k os xs = [] := by
      intro k os
      induction os generalizing k with
      | nil => intro xs; unfold made; rfl
      | cons o os ih =>
        intro xs
        cases xs with
        | nil => simp [made]
        | cons x xs =>
          obtain ⟨x, r⟩ := x
          cases r with
          | none => simp only [made]; exact ih _ _
          | some f => simp only [made, cond_false]; exact ih _ _
    exact key _ _ _
  have := draw2_main (P := P) (c := c) (H := H) (Γ := Γ) (Q := Q) hchk hlen (by simpa using hd) (fun i o x ho hx => by simpa using hrun i o x ho hx) (fun I' a' w' h => by
      rw [← runEnv_eq] at h; exact k I' a' w' (by simpa using h)) (pre ++ tail).length (Array.replicate (pre ++ tail).length false) I a { w with drawn := w.drawn + 1 } (by simp)
    (by simpa using List.length_filter_le _ (List.range (pre ++ tail).length)) (fun i hi h => by rw [hf] at h; cases h) (fun i o ho hi => by rw [hf] at hi; cases hi) (by
      have he : (ents 0 pre (xs.map (·.1))).reverse.filter (fun e => (Array.replicate (pre ++ tail).length false).getD e.1 false) = [] := by
        rw [List.filter_eq_nil_iff]; intro e _; rw [hf]; simp
      rw [he, hm0, List.append_nil]
      exact ⟨⟨hs.step.le, hs.step.old, hs.step.models, hs.step.below.drew⟩, ⟨fun o ho => ⟨o.keep I I w _ (Im.le_refl I) (fun _ _ => rfl) (hs.own.all o ho).1, (hs.own.all o ho).2⟩, hs.own.nodup⟩, hs.env, hs.size, hs.defers⟩)
  simpa using this
theorem St.drawA {id : Nat} {l : List Oper} (n : Nat) (hs : St c I H Γ a w) (hm : P.follows .mixedOrders = true) (hchk : drawChk2 (l.take n) (l.drop n) = true) (hd : ((l.take n).all fun o => Nat.blt (o.dst.getD 0) c.n) = true)
    (run : RunTA P c H l.toArray Q (l.drop n) (fun _ => []) 0 Γ (l.take n)) : (Code.region id l.toArray true).wp P Q a w := by
  have e : l.take n ++ l.drop n = l := List.take_append_drop n l
  have := hs.drawA0 (id := id) (Q := Q) (l.take n) (l.drop n) hm hchk hd (by rw [e]; exact run)
  rwa [e] at this
theorem St.openBox {d : Nat} {T : TypeId} {l : List AV} (hs : St c I (H ++ ([] ++ [mkBox T l (a.tmps.getD d undef)])) Γ a w) (h : Env.get d Γ = some AV.newp) : ∃ b, St c I (H ++ [Own.box b T l]) ((d, .val (.pointer (some ⟨b, 0, none⟩))) :: Γ) a w := by
  obtain ⟨b, hb⟩ : ∃ b, a.tmps.getD d undef = .pointer (some ⟨b, 0, none⟩) := hs.env d _ h
  rw [hb] at hs
  refine ⟨b, hs.step, by simpa [mkBox] using hs.own, fun t x e => ?_, hs.size, hs.defers⟩
  simp only [Env.get] at e
  cases hbq : Nat.beq d t with
  | true =>
    rw [hbq] at e; simp only [cond_true] at e; cases e
    obtain rfl : d = t := Nat.eq_of_beq_eq_true hbq
    exact hb
  | false => rw [hbq] at e; exact hs.env t x (by simpa using e)
theorem St.drawT {id : Nat} {l : List Oper} (n : Nat) (hs : St c I H Γ a w) (hm : P.follows .mixedOrders = true) (hchk : drawChk2 (l.take n) (l.drop n) = true) (hd : ((l.take n).all fun o => Nat.blt (o.dst.getD 0) c.n) = true)
    (run : RunT P c H l.toArray Q (l.drop n) Γ (l.take n)) : (Code.region id l.toArray true).wp P Q a w := by
  have e : l.take n ++ l.drop n = l := List.take_append_drop n l
  have := hs.drawT0 (id := id) (Q := Q) (l.take n) (l.drop n) hm hchk hd (by rw [e]; exact run)
  rwa [e] at this
end
theorem one_fn {f : FuncId} {l : List AV} : (AV.fn f l).One := fun _ _ ⟨_, e, _⟩ => by rw [e]; rfl
section
variable {P : Program}
def flatFields (T : TypeId) (o : Nat) : List Field → Bool
  | [] => true
  | f :: fs => (f.name != "_" && f.type == T && f.offset == o) && flatFields T (o + 1) fs
theorem eqFields_flat {T m : TypeId} {zv : Value} (hT : P.underlying T = some (.int .i64)) (hy : Ty P T false 1 m zv) (d : Nat) : ∀ (fs : List Field) (o : Nat) (pre xs ys prey : List Int) (w : World), flatFields T o fs = true → pre.length = o → prey.length = o → xs.length = fs.length → ys.length = fs.length →
    (Op.eqFields (d + 1) ((pre ++ xs).map (Value.int .i64)).toArray ((prey ++ ys).map (Value.int .i64)).toArray fs).run P w = .ok (xs == ys) w
  | [], o, pre, [], [], prey, w, _, _, _, _, _ => by simp [Op.eqFields, Sem.run_pure]
  | f :: fs, o, pre, x :: xs, y :: ys, prey, w, h, hp, hq, hx, hy' => by
    simp only [flatFields, Bool.and_eq_true, beq_iff_eq, bne_iff_ne] at h
    obtain ⟨⟨⟨h1, h2⟩, h3⟩, h4⟩ := h
    have ih := eqFields_flat hT hy d fs (o + 1) (pre ++ [x]) xs ys (prey ++ [y]) w h4 (by simp [hp]) (by simp [hq]) (by simpa using hx) (by simpa using hy')
    rw [List.append_assoc, List.append_assoc] at ih
    have hpart : ∀ (pre l : List Int) (x : Int), pre.length = o → (part T ((pre ++ x :: l).map (Value.int .i64)).toArray o).run P w = .ok (.int .i64 x) w := fun pre l x hl => by
      have e : ((pre ++ x :: l).map (Value.int .i64)).toArray[o]? = some (.int .i64 x) := by
        simp [List.getElem?_append_right, hl]
      simp only [part, Sem.run_bind, hy.isAgg, Result.andThen_ok, Bool.false_eq_true, if_false, e, Sem.run_pure]
    simp only [Op.eqFields]
    rw [if_pos h1, h2, h3]
    simp only [Sem.run_bind, hpart pre xs x hp, hpart prey ys y hq, Result.andThen_ok, run_equalIn_int w d T .i64 .i64 x y hT]
    by_cases hxy : x = y
    · subst hxy
      simp only [beq_self_eq_true, Bool.not_true, Bool.false_eq_true, if_false]
      have e : ((x :: xs) == (x :: ys)) = (xs == ys) := by simp [List.cons_beq_cons]
      rw [e]; exact ih
    · have e : (x == y) = false := by simpa using hxy
      have e2 : ((x :: xs) == (y :: ys)) = false := by simp [hxy]
      simp [e, e2, Sem.run_pure]
  | [], _, _, _ :: _, _, _, _, _, _, _, h, _ => by simp at h
  | [], _, _, [], _ :: _, _, _, _, _, _, _, h => by simp at h
  | _ :: _, _, _, [], _, _, _, _, _, _, h, _ => by simp at h
  | _ :: _, _, _, _ :: _, [], _, _, _, _, _, _, h => by simp at h
theorem EqTy.flat {T T3 m n : Nat} {zv : Value} (hT : P.underlying T3 = some (.int .i64)) (hy : Ty P T3 false 1 m zv) (gd : P.eqGuardType P.depth T = false) (hu : P.underlying T = some (.struct (P.fieldsOf T))) (hp : P.stoodInHeld T = false) (hf : flatFields T3 0 (P.fieldsOf T).toList = true) (hn : (P.fieldsOf T).toList.length = n) : EqTy P T n :=
  ⟨gd, fun xs ys w hx hy' => by
    rw [run_equalIn_agg w 9999 T _ _ hu hp]
    exact eqFields_flat hT hy 9998 (P.fieldsOf T).toList 0 [] xs ys [] w hf rfl rfl (by rw [hx, hn]) (by rw [hy', hn])⟩
end
theorem filled_step {sz : Nat} : ∀ (lxs done : List (List AV)) (n : Nat), (∀ r ∈ lxs, r.length = sz) → done.flatten.length = n * sz →
    filled (done.flatten ++ List.replicate (lxs.length * sz) AV.any) ((lxs.zipIdx n).map fun p => (p.2 * sz, p.1)) = done.flatten ++ lxs.flatten
  | [], done, n, _, _ => by simp [filled]
  | x :: lxs, done, n, h, hd => by
    have hx : x.length = sz := h x (by simp)
    have ih := filled_step lxs (done ++ [x]) (n + 1) (fun r hr => h r (by simp [hr])) (by simp [hd, hx, Nat.succ_mul])
    simp only [List.zipIdx_cons, List.map_cons, filled, List.foldl_cons]
    have e : seg (done.flatten ++ List.replicate ((x :: lxs).length * sz) AV.any) (n * sz) x = (done ++ [x]).flatten ++ List.replicate (lxs.length * sz) AV.any := by
      unfold seg
      rw [← hd, List.take_left, List.drop_append, List.drop_eq_nil_of_le (by omega)]
      simp only [List.flatten_append, List.flatten_cons, List.flatten_nil, List.append_nil, List.nil_append, List.length_cons]
      rw [List.drop_replicate, show (lxs.length + 1) * sz - (done.flatten.length + x.length - done.flatten.length) = lxs.length * sz from by rw [Nat.succ_mul, hx]; omega]
    rw [e]
    unfold filled at ih
    rw [ih]; simp
theorem filled_all {sz : Nat} {lxs : List (List AV)} (h : ∀ r ∈ lxs, r.length = sz) : filled (List.replicate (lxs.length * sz) AV.any) ((lxs.zipIdx).map fun p => (p.2 * sz, p.1)) = lxs.flatten := by
  have := filled_step lxs [] 0 h (by simp)
  simpa using this
section
variable {P : Program} {H : List Own} {Γ : Env} {g : Bool} {d : Option Tmp} {ty T E : TypeId} {p : String} {af : Array Edge} {gd : Option (Nat × Bool)} {m : Nat} {zv : Value}
theorem ok_litAll {ag : Bool} {sz : Nat} {lxs : List (List AV)} {parts : List (Nat × Operand)} {ps : List (Nat × List AV)} (hT : P.underlying T = some (.slice E)) (hE : Ty P E ag sz m zv) (hzs : zv.cells.size = sz) (hz1 : ∀ u ∈ zv.cells.toList, u.oneCell' = true)
    (hsz : Nat.blt 0 sz = true) (hbig : Nat.ble (lxs.length * sz) 16777216 = true) (hp : Parts (slicePlace sz) Γ g (lxs.length * sz) parts ps) (he : ps = (lxs.zipIdx).map fun p => (p.2 * sz, p.1)) (hr : ∀ r ∈ lxs, r.length = sz) :
    Ok P H Γ g ⟨d, .buildSlice T lxs.length parts.toArray, ty, p, af, gd⟩ (.rows sz lxs) :=
  ok_lit hT hE hzs hz1 hsz hbig hp (by rw [he]; exact filled_all hr) rfl hr
end
theorem Fn.valF {P : Program} {f : FuncId} {args : List AV} {res : AV} (h : Fn P f args res) : FnV P (AV.val (.func (.func f) #[] #[])) args res := fun I w v vs hm e ha =>
  ⟨f, #[], #[], e, h.1, by simpa using h.2 I w vs hm ha⟩
end Go.Proofs.YtkoebplikhlapaaGreatDoor
