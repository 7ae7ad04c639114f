/- Memory of the call's own: variables and slices that it writes. -/
import Derived.Test.YtlppgilifnkapaaGreatDraw
set_option linter.unusedVariables false
set_option linter.unusedSimpArgs false
namespace Go.Proofs.YtlppgilifnkapaaGreat
open Go Go.RowKit

/-- Nothing. (A place in the list of what is owned that is free again.) -/
def Own.gone : Own := ⟨none, fun _ _ => True, fun _ _ _ _ _ _ _ => trivial⟩

section
variable {base : Nat} {I : Im} {w : World} {H : List Own}

theorem OwnsAll.push (h : OwnsAll base I w H) (hb : base ≤ w.heap.size) {o : Obj} {x : Own} (hblk : x.blk = some w.heap.size) (hm : Models w I) (ok : x.ok I (w.alloc o)) : OwnsAll base I (w.alloc o) (H ++ [x]) := by
  have h' := h.step (Step.alloc hm o)
  refine ⟨fun y hy => ?_, ?_⟩
  · rcases List.mem_append.1 hy with hy | hy
    · exact h'.all y hy
    · obtain rfl : y = x := by simpa using hy
      refine ⟨ok, fun b e => ?_⟩
      rw [hblk] at e; cases e
      exact ⟨hb, hm.none (Nat.le_refl _), by simp⟩
  · rw [List.filterMap_append, List.nodup_append]
    refine ⟨h'.nodup, by simp [hblk], fun b hb' b' hb2 => ?_⟩
    obtain ⟨y, hy, e⟩ := List.mem_filterMap.1 hb'
    have := ((h.all y hy).2 b e).2.2
    simp [hblk] at hb2
    omega

theorem filterMap_set_nodup {x : Own} {k : Nat} (hd : (H.filterMap Own.blk).Nodup) (hx : ∀ b, x.blk = some b → (∃ y, H[k]? = some y ∧ y.blk = some b) ∨ ∀ y ∈ H, y.blk ≠ some b) :
    ((H.set k x).filterMap Own.blk).Nodup := by
  induction H generalizing k with
  | nil => simp
  | cons z H ih =>
    cases k with
    | zero =>
      simp only [List.set_cons_zero]
      cases hb : x.blk with
      | none =>
        rw [List.filterMap_cons, hb]
        rw [List.filterMap_cons] at hd
        cases hz : z.blk with
        | none => rw [hz] at hd; exact hd
        | some c => rw [hz] at hd; exact (List.nodup_cons.1 hd).2
      | some b =>
        rw [List.filterMap_cons, hb]
        have hd' : (H.filterMap Own.blk).Nodup := by
          rw [List.filterMap_cons] at hd
          cases hz : z.blk with
          | none => rw [hz] at hd; exact hd
          | some c => rw [hz] at hd; exact (List.nodup_cons.1 hd).2
        refine List.nodup_cons.2 ⟨fun hm => ?_, hd'⟩
        obtain ⟨y, hy, e⟩ := List.mem_filterMap.1 hm
        rcases hx b hb with ⟨y', h1, h2⟩ | h
        · simp at h1; subst h1
          rw [List.filterMap_cons, h2] at hd
          exact (List.nodup_cons.1 hd).1 (List.mem_filterMap.2 ⟨y, hy, e⟩)
        · exact h y (by simp [hy]) e
    | succ k =>
      simp only [List.set_cons_succ]
      rw [List.filterMap_cons] at hd ⊢
      cases hz : z.blk with
      | none =>
        rw [hz] at hd
        refine ih hd fun b hb => ?_
        rcases hx b hb with ⟨y, h1, h2⟩ | h
        · exact .inl ⟨y, by simpa using h1, h2⟩
        · exact .inr fun y hy => h y (by simp [hy])
      | some c =>
        rw [hz] at hd
        obtain ⟨h1, h2⟩ := List.nodup_cons.1 hd
        refine List.nodup_cons.2 ⟨fun hm => ?_, ih h2 fun b hb => ?_⟩
        · obtain ⟨y, hy, e⟩ := List.mem_filterMap.1 hm
          rcases List.mem_or_eq_of_mem_set hy with hy | rfl
          · exact h1 (List.mem_filterMap.2 ⟨y, hy, e⟩)
          · rcases hx c e with ⟨y', h3, h4⟩ | h
            · exact h1 (List.mem_filterMap.2 ⟨y', List.mem_of_getElem? (by simpa using h3), h4⟩)
            · exact h z (by simp) hz
        · rcases hx b hb with ⟨y, h3, h4⟩ | h
          · exact .inl ⟨y, by simpa using h3, h4⟩
          · exact .inr fun y hy => h y (by simp [hy])

/-- One of the owned blocks is written: the others stand. -/
theorem OwnsAll.write {w' : World} {k : Nat} {x x' : Own} (h : OwnsAll base I w H) (hk : H[k]? = some x) (hblk : x'.blk = x.blk) (hsize : w'.heap.size = w.heap.size)
    (hw : ∀ b, some b ≠ x.blk → w'.heap[b]? = w.heap[b]?) (ok : x'.ok I w') : OwnsAll base I w' (H.set k x') := by
  have hkl : k < H.length := (List.getElem?_eq_some_iff.1 hk).1
  refine ⟨fun y hy => ?_, filterMap_set_nodup h.nodup fun b hb => .inl ⟨x, hk, by rw [← hblk]; exact hb⟩⟩
  rw [List.mem_iff_getElem?] at hy
  obtain ⟨i, hi⟩ := hy
  by_cases hik : i = k
  · subst hik
    rw [List.getElem?_set_self hkl] at hi
    cases hi
    obtain ⟨_, h2⟩ := h.all x (List.mem_of_getElem? hk)
    exact ⟨ok, fun b hb => by obtain ⟨a1, a2, a3⟩ := h2 b (by rw [← hblk]; exact hb); exact ⟨a1, a2, by omega⟩⟩
  · rw [List.getElem?_set_ne (fun e => hik e.symm)] at hi
    obtain ⟨h1, h2⟩ := h.all y (List.mem_of_getElem? hi)
    refine ⟨y.keep I I w w' (Im.le_refl I) (fun b hb => hw b fun e => ?_) h1, fun b hb => by obtain ⟨a1, a2, a3⟩ := h2 b hb; exact ⟨a1, a2, by omega⟩⟩
    -- two entries with one block
    have hnd := h.nodup
    have hne : ∀ (L : List Own) (i k : Nat), (L.filterMap Own.blk).Nodup → i ≠ k → L[i]? = some y → L[k]? = some x → False := by
      intro L
      induction L with
      | nil => intro i k _ _ hi; simp at hi
      | cons z L ih =>
        intro i k hnd hne hi hk
        cases i with
        | zero =>
          cases k with
          | zero => exact hne rfl
          | succ k =>
            simp at hi hk; subst hi
            rw [List.filterMap_cons, hb] at hnd
            exact (List.nodup_cons.1 hnd).1 (List.mem_filterMap.2 ⟨x, List.mem_of_getElem? hk, e.symm⟩)
        | succ i =>
          cases k with
          | zero =>
            simp at hi hk; subst hk
            rw [List.filterMap_cons, ← e] at hnd
            exact (List.nodup_cons.1 hnd).1 (List.mem_filterMap.2 ⟨y, List.mem_of_getElem? hi, hb⟩)
          | succ k =>
            refine ih i k ?_ (by omega) (by simpa using hi) (by simpa using hk)
            rw [List.filterMap_cons] at hnd
            cases hz : z.blk with
            | none => rw [hz] at hnd; exact hnd
            | some c => rw [hz] at hnd; exact (List.nodup_cons.1 hnd).2
    exact hne H i k hnd hik hi hk

/-- Writing a block that is no block of the ghost heap. -/
theorem Step.write {c : Ctx} {w' : World} {b : Nat} (hs : Step c.I c.W I w) (hb : c.W.heap.size ≤ b) (hI : I b = none) (hsize : w'.heap.size = w.heap.size)
    (hos : w'.os = w.os) (htape : w'.tape = w.tape) (hout : w'.output = w.output) (hw : ∀ k, k ≠ b → w'.heap[k]? = w.heap[k]?) : Step c.I c.W I w' :=
  ⟨hs.le, hs.old, fun k cs e => by
    obtain ⟨T, fr, hh⟩ := hs.models k cs e
    exact ⟨T, fr, by rw [hw k (fun h => by subst h; rw [hI] at e; cases e)]; exact hh⟩,
   hs.below.trans ⟨hos, htape, hout, by omega, fun k hk => hw k (by omega)⟩⟩
end

section
variable {P : Program} {c : Ctx} {I : Im} {H : List Own} {Γ : Env} {a : Act} {w : World} {Q : Exit → Act → World → Prop} {ops : Array Oper} {rest : List Oper}
variable {d : Nat} {y z : Operand} {ty T T' E : TypeId} {p : String} {af : Array Edge} {g : Bool} {gd : Option (Nat × Bool)} {n m : Nat} {zv : Value}

theorem St.put0 {I' : Im} {w' : World} {H' : List Own} (hs : St c I H Γ a w) (hst : Step c.I c.W I' w') (hle : Im.le I I') (ho : OwnsAll c.W.heap.size I' w' H') {d : Nat} (hd : Nat.blt d c.n = true) {x : AV} {v : Value} (hx : x.h I' v) :
    St c I' H' ((d, x) :: Γ) (a.put (some d) v) w' :=
  ⟨hst, ho, (hs.env.up hle).put (by rw [hs.size]; simpa using hd) hx, by simp [Act.put, hs.size], hs.defers⟩

theorem run_newVar {w : World} {T : TypeId} {v : Value} : (newVar T v).run P w = .ok ⟨w.heap.size, 0, none⟩ (w.alloc (.cells v.cells T)) := by
  rfl

/-- A variable that nobody writes any more: a persistent row. -/
theorem ok_boxP {d : Option Tmp} {l : List AV} (h : At Γ g y (.agg l)) : Ok P H Γ g ⟨d, .box T y, ty, p, af, gd⟩ (.ptr l) :=
  fun base I a w K Q he hm hw hg k => by
    obtain ⟨cs, e, hl⟩ := h I a he hg
    unfold Oper.wp
    simp only [execOp, Instr.box, e, Sem.run_bind, run_newVar, Result.andThen_ok, Sem.run_pure, Value.cells, Oper.upon_value]
    refine k _ _ _ ⟨⟨w.heap.size, 0, none⟩, rfl, rfl, cs, by simp [Im.add], ?_⟩ (Step.allocP hm cs T (0, 0))
    have := (hl.up (Im.le_add (cs := cs) (hm.none (Nat.le_refl _))))
    refine this.cast rfl ?_
    have hlen := this.length
    simp only [List.drop_zero]
    rw [List.take_of_length_le (by omega)]
theorem cells_one {v : Value} (h : v.oneCell' = true) : v.cells = #[v] := by
  cases v <;> simp_all [Value.cells, Value.oneCell']
/-- A value of one cell. -/
def AV.One (x : AV) : Prop := ∀ I v, x.h I v → v.oneCell' = true
theorem one_val {v : Value} (h : v.oneCell' = true) : (AV.val v).One := fun _ _ e => by rw [show _ = v from e]; exact h
theorem one_rows {s : Nat} {l : List (List AV)} : (AV.rows s l).One := fun _ _ ⟨_, _, e, _⟩ => by rw [e]; rfl
theorem one_ptr {l : List AV} : (AV.ptr l).One := fun _ _ ⟨_, e, _⟩ => by rw [e]; rfl
theorem ok_boxP1 {d : Option Tmp} {x : AV} (h : At Γ g y x) (hx : x.One) : Ok P H Γ g ⟨d, .box T y, ty, p, af, gd⟩ (.ptr [x]) :=
  fun base I a w K Q he hm hw hg k => by
    have e := h I a he hg
    unfold Oper.wp
    simp only [execOp, Instr.box, Sem.run_bind, run_newVar, Result.andThen_ok, Sem.run_pure, cells_one (hx _ _ e), Oper.upon_value]
    refine k _ _ _ ⟨⟨w.heap.size, 0, none⟩, rfl, rfl, #[a.eval y], by simp [Im.add], ?_⟩ (Step.allocP hm _ T (0, 0))
    simp only [List.drop_zero, List.length_cons, List.length_nil]
    exact ⟨⟨x.up _ _ _ (Im.le_add (hm.none (Nat.le_refl _))) e, hx _ _ e⟩, trivial⟩

/-- A variable of the call's own. -/
theorem St.alloc {l : List AV} {ag : Bool} (hs : St c I H Γ a w) (hd : Nat.blt d c.n = true) (hT : Ty P T ag n m zv) (hz : ∀ I, HoldsL I l zv.cells.toList)
    (k : ∀ b I a' w', St c I (H ++ [Own.box b T l]) ((d, .val (.pointer (some ⟨b, 0, none⟩))) :: Γ) a' w' → wpList P ops Q rest a' w') :
    wpList P ops Q (⟨some d, .alloc T, ty, p, af, none⟩ :: rest) a w := by
  unfold wpList
  rw [if_pos (by simp [Region.wanted])]
  left
  unfold Oper.wp
  have hzr : (zeroValue T).run P w = .ok zv w := hT.zero
  simp only [execOp, Instr.alloc, Sem.run_bind, hzr, Result.andThen_ok, run_newVar, Sem.run_pure, Oper.upon_value]
  refine k w.heap.size I _ _ (hs.put0 (hs.step.trans (Step.alloc hs.step.models _)) (Im.le_refl _) (hs.own.push (x := Own.box w.heap.size T l) hs.step.below.size rfl hs.step.models ⟨_, heap_alloc_get w _, hz I⟩) hd rfl)
theorem St.box {l : List AV} (hs : St c I H Γ a w) (hd : Nat.blt d c.n = true) (h : At Γ true y (.agg l))
    (k : ∀ b I a' w', St c I (H ++ [Own.box b T l]) ((d, .val (.pointer (some ⟨b, 0, none⟩))) :: Γ) a' w' → wpList P ops Q rest a' w') :
    wpList P ops Q (⟨some d, .box T y, ty, p, af, none⟩ :: rest) a w := by
  unfold wpList
  rw [if_pos (by simp [Region.wanted])]
  left
  obtain ⟨cs, e, hl⟩ := h I a hs.env rfl
  unfold Oper.wp
  simp only [execOp, Instr.box, e, Sem.run_bind, run_newVar, Result.andThen_ok, Sem.run_pure, Value.cells, Oper.upon_value]
  exact k w.heap.size I _ _ (hs.put0 (hs.step.trans (Step.alloc hs.step.models _)) (Im.le_refl _) (hs.own.push (x := Own.box w.heap.size T l) hs.step.below.size rfl hs.step.models ⟨_, heap_alloc_get w _, hl⟩) hd rfl)
theorem St.box1 {x : AV} (hs : St c I H Γ a w) (hd : Nat.blt d c.n = true) (h : At Γ true y x) (hx : x.One)
    (k : ∀ b I a' w', St c I (H ++ [Own.box b T [x]]) ((d, .val (.pointer (some ⟨b, 0, none⟩))) :: Γ) a' w' → wpList P ops Q rest a' w') :
    wpList P ops Q (⟨some d, .box T y, ty, p, af, none⟩ :: rest) a w := by
  unfold wpList
  rw [if_pos (by simp [Region.wanted])]
  left
  have e := h I a hs.env rfl
  unfold Oper.wp
  simp only [execOp, Instr.box, Sem.run_bind, run_newVar, Result.andThen_ok, Sem.run_pure, cells_one (hx _ _ e), Oper.upon_value]
  exact k w.heap.size I _ _ (hs.put0 (hs.step.trans (Step.alloc hs.step.models _)) (Im.le_refl _) (hs.own.push (x := Own.box w.heap.size T [x]) hs.step.below.size rfl hs.step.models ⟨#[a.eval y], heap_alloc_get w _, ⟨e, hx _ _ e⟩, trivial⟩) hd rfl)

/-- A segment of a list is replaced. -/
def seg {α : Type} (l : List α) (q : Nat) (x : List α) : List α := l.take q ++ x ++ l.drop (q + x.length)

theorem run_storeVar {w : World} {ag : Bool} (hT : Ty P T ag n m zv) {b q : Nat} {cs : Array Value} {v : Value} (hb : w.heap[b]? = some (.cells cs T' (0, 0))) (hv : v.cells.size = n) (hq : q + n ≤ cs.size) (h1 : ∀ u ∈ v.cells.toList, u.oneCell' = true) :
    (storeVar T ⟨b, q, none⟩ v).run P w = .ok () (w.setRow b (seg cs.toList q v.cells.toList).toArray) := by
  have hsz : (sizeOf T).run P w = .ok n w := hT.size
  have hst := run_storeCells_at P b q T' v.cells.toList 0 cs w hb (by simp; omega) h1
  simp only [Nat.add_zero] at hst
  simp only [storeVar, Sem.run_bind, hsz, Result.andThen_ok, hv, ne_eq, not_true_eq_false, if_false, hst]
  simp [seg]

theorem store_upon {w w' : World} {v : Value} {b q : Nat} {K : Act → World → Prop} {Q : Exit → Act → World → Prop} (hy : a.eval y = .pointer (some ⟨b, q, none⟩)) (hz : a.eval z = v)
    (hr : (storeVar T ⟨b, q, none⟩ v).run P w = .ok () w') (k : K a w') : (⟨none, .store T y z, ty, p, af, gd⟩ : Oper).wp P a w K Q := by
  unfold Oper.wp
  simp only [execOp, Instr.storeAt, hy, hz, Instr.sureAddr, Sem.run_bind, Sem.run_pure, Result.andThen_ok, hr, Oper.upon_skip]
  exact k

theorem St.written {H' : List Own} {w' : World} (hs : St c I H Γ a w) (hst : Step c.I c.W I w') (ho : OwnsAll c.W.heap.size I w' H') : St c I H' Γ a w' :=
  ⟨hst, ho, hs.env, hs.size, hs.defers⟩

/-- A store into a variable of the call's own. -/
theorem St.storeBox {ag : Bool} {b q : Nat} {l lx : List AV} {v : Value} (k : Nat) (hs : St c I H Γ a w) (hT : Ty P T ag n m zv) (hk : H[k]? = some (Own.box b T' l)) (hv : HoldsL I lx v.cells.toList) (hn : lx.length = n) (hq : Nat.ble (q + n) l.length = true) :
    ∃ w', (storeVar T ⟨b, q, none⟩ v).run P w = .ok () w' ∧ St c I (H.set k (Own.box b T' (seg l q lx))) Γ a w' := by
  obtain ⟨⟨cs, hb, hl⟩, h2⟩ := hs.own.all _ (List.mem_of_getElem? hk)
  obtain ⟨hbb, hbI, hbw⟩ := h2 b rfl
  have hlen := hl.length
  have hvl := hv.length
  have hq' : q + n ≤ l.length := Nat.le_of_ble_eq_true hq
  have hsz : cs.size = l.length := by simpa using hlen
  have hr := run_storeVar (P := P) hT (q := q) (v := v) hb (by simp at hvl; omega) (by omega) hv.one
  refine ⟨_, hr, hs.written (hs.step.write hbb hbI (by simp) rfl rfl rfl fun k' hk' => setRow_other w b k' _ hk') (hs.own.write hk rfl (by simp) (fun k' hk' => setRow_other w b k' _ fun e => hk' (by rw [e]; rfl)) ⟨_, setRow_heap w b cs _ T' _ hb, ?_⟩)⟩
  have hlx : lx.length = v.cells.toList.length := hvl.symm
  simp only [seg, hlx]
  exact ((hl.take q).append hv).append (hl.drop (q + v.cells.toList.length))
end
end Go.Proofs.YtlppgilifnkapaaGreat
