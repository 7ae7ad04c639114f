/- Part 3: rules of the proofs, contracts of functions, plain facts. -/
import Derived.Test.YtkoebplikhlapaaGreatDoorP02
set_option linter.unusedVariables false
set_option linter.unusedSimpArgs false
namespace Go.Proofs.YtkoebplikhlapaaGreatDoor
open Go Go.RowKit
def Own.gone : Own := ⟨none, fun _ _ => True, fun _ _ _ _ _ _ _ => trivial⟩
section
variable {base : Nat → Prop} {I : Im} {w : World} {H : List Own}
theorem OwnsAll.push (h : OwnsAll base I w H) (hb : base w.heap.size) {o : Obj} {x : Own} (hblk : x.blk = some w.heap.size) (hm : Models w I) (ok : x.ok I (w.alloc o)) : OwnsAll base I (w.alloc o) (H ++ [x]) := by
  have h' := h.step (Step.alloc hm o)
  refine ⟨fun y hy => ?_, ?_⟩
  · rcases List.mem_append.1 hy with hy | hy
    · exact h'.all y hy
    · obtain rfl : y = x := by simpa using hy
      refine ⟨ok, fun b e => ?_⟩
      rw [hblk] at e; cases e
      exact ⟨hb, hm.none (Nat.le_refl _), by simp⟩
  · rw [List.filterMap_append, List.nodup_append]
    refine ⟨h'.nodup, by simp [hblk], fun b hb' b' hb2 => ?_⟩
    obtain ⟨y, hy, e⟩ := List.mem_filterMap.1 hb'
    have := ((h.all y hy).2 b e).2.2
    simp [hblk] at hb2
    omega
theorem filterMap_set_nodup {x : Own} {k : Nat} (hd : (H.filterMap Own.blk).Nodup) (hx : ∀ b, x.blk = some b → (∃ y, H[k]? = some y ∧ y.blk = some b) ∨ ∀ y ∈ H, y.blk ≠ some b) :
    ((H.set k x).filterMap Own.blk).Nodup := by
  induction H generalizing k with
  | nil => simp
  | cons z H ih =>
    cases k with
    | zero =>
      simp only [List.set_cons_zero]
      cases hb : x.blk with
      | none =>
        rw [List.filterMap_cons, hb]
        rw [List.filterMap_cons] at hd
        cases hz : z.blk with
        | none => rw [hz] at hd; exact hd
        | some c => rw [hz] at hd; exact (List.nodup_cons.1 hd).2
      | some b =>
        rw [List.filterMap_cons, hb]
        have hd' : (H.filterMap Own.blk).Nodup := by
          rw [List.filterMap_cons] at hd
          cases hz : z.blk with
          | none => rw [hz] at hd; exact hd
          | some c => rw [hz] at hd; exact (List.nodup_cons.1 hd).2
        refine List.nodup_cons.2 ⟨fun hm => ?_, hd'⟩
        obtain ⟨y, hy, e⟩ := List.mem_filterMap.1 hm
        rcases hx b hb with ⟨y', h1, h2⟩ | h
        · simp at h1; subst h1
          rw [List.filterMap_cons, h2] at hd
          exact (List.nodup_cons.1 hd).1 (List.mem_filterMap.2 ⟨y, hy, e⟩)
        · exact h y (by simp [hy]) e
    | succ k =>
      simp only [List.set_cons_succ]
      rw [List.filterMap_cons] at hd ⊢
      cases hz : z.blk with
      | none =>
        rw [hz] at hd
        refine ih hd fun b hb => ?_
        rcases hx b hb with ⟨y, h1, h2⟩ | h
        · exact .inl ⟨y, by simpa using h1, h2⟩
        · exact .inr fun y hy => h y (by simp [hy])
      | some c =>
        rw [hz] at hd
        obtain ⟨h1, h2⟩ := List.nodup_cons.1 hd
        refine List.nodup_cons.2 ⟨fun hm => ?_, ih h2 fun b hb => ?_⟩
        · obtain ⟨y, hy, e⟩ := List.mem_filterMap.1 hm
          rcases List.mem_or_eq_of_mem_set hy with hy | rfl
          · exact h1 (List.mem_filterMap.2 ⟨y, hy, e⟩)
          · rcases hx c e with ⟨y', h3, h4⟩ | h
            · exact h1 (List.mem_filterMap.2 ⟨y', List.mem_of_getElem? (by simpa using h3), h4⟩)
            · exact h z (by simp) hz
        · rcases hx b hb with ⟨y, h3, h4⟩ | h
          · exact .inl ⟨y, by simpa using h3, h4⟩
          · exact .inr fun y hy => h y (by simp [hy])
theorem OwnsAll.write {w' : World} {k : Nat} {x x' : Own} (h : OwnsAll base I w H) (hk : H[k]? = some x) (hblk : x'.blk = x.blk) (hsize : w'.heap.size = w.heap.size)
    (hw : ∀ b, some b ≠ x.blk → w'.heap[b]? = w.heap[b]?) (ok : x'.ok I w') : OwnsAll base I w' (H.set k x') := by
  have hkl : k < H.length := (List.getElem?_eq_some_iff.1 hk).1
  refine ⟨fun y hy => ?_, filterMap_set_nodup h.nodup fun b hb => .inl ⟨x, hk, by rw [← hblk]; exact hb⟩⟩
  rw [List.mem_iff_getElem?] at hy
  obtain ⟨i, hi⟩ := hy
  by_cases hik : i = k
  · subst hik
    rw [List.getElem?_set_self hkl] at hi
    cases hi
    obtain ⟨_, h2⟩ := h.all x (List.mem_of_getElem? hk)
    exact ⟨ok, fun b hb => by obtain ⟨a1, a2, a3⟩ := h2 b (by rw [← hblk]; exact hb); exact ⟨a1, a2, by omega⟩⟩
  · rw [List.getElem?_set_ne (fun e => hik e.symm)] at hi
    obtain ⟨h1, h2⟩ := h.all y (List.mem_of_getElem? hi)
    refine ⟨y.keep I I w w' (Im.le_refl I) (fun b hb => hw b fun e => ?_) h1, fun b hb => by obtain ⟨a1, a2, a3⟩ := h2 b hb; exact ⟨a1, a2, by omega⟩⟩
    have hnd := h.nodup
    have hne : ∀ (L : List Own) (i k : Nat), (L.filterMap Own.blk).Nodup → i ≠ k → L[i]? = some y → L[k]? = some x → False := by
      intro L
      induction L with
      | nil => intro i k _ _ hi; simp at hi
      | cons z L ih =>
        intro i k hnd hne hi hk
        cases i with
        | zero =>
          cases k with
          | zero => exact hne rfl
          | succ k =>
            simp at hi hk; subst hi
            rw [List.filterMap_cons, hb] at hnd
            exact (List.nodup_cons.1 hnd).1 (List.mem_filterMap.2 ⟨x, List.mem_of_getElem? hk, e.symm⟩)
        | succ i =>
          cases k with
          | zero =>
            simp at hi hk; subst hk
            rw [List.filterMap_cons, ← e] at hnd
            exact (List.nodup_cons.1 hnd).1 (List.mem_filterMap.2 ⟨y, List.mem_of_getElem? hi, hb⟩)
          | succ k =>
            refine ih i k ?_ (by omega) (by simpa using hi) (by simpa using hk)
            rw [List.filterMap_cons] at hnd
            cases hz : z.blk with
            | none => rw [hz] at hnd; exact hnd
            | some c => rw [hz] at hnd; exact (List.nodup_cons.1 hnd).2
    exact hne H i k hnd hik hi hk
theorem StepF.write {c : Ctx} {w' : World} {b : Nat} (hs : StepF c.F c.I c.W I w) (hb : c.own b) (hI : I b = none) (hsize : w'.heap.size = w.heap.size)
    (hos : w'.os = w.os) (htape : w'.tape = w.tape) (hout : w'.output = w.output) (hw : ∀ k, k ≠ b → w'.heap[k]? = w.heap[k]?) : StepF c.F c.I c.W I w' :=
  ⟨hs.le, hs.old, fun k cs e => by
    obtain ⟨T, fr, hh⟩ := hs.models k cs e
    exact ⟨T, fr, by rw [hw k (fun h => by subst h; rw [hI] at e; cases e)]; exact hh⟩,
   ⟨hos.trans hs.below.os, htape.trans hs.below.tape, hout.trans hs.below.output, by have := hs.below.size; omega, fun k hk hf => (hw k (fun e => by subst e; rcases hb with h | h; exact absurd h (by omega); exact hf h)).trans (hs.below.block k hk hf)⟩⟩
end
section
variable {P : Program} {c : Ctx} {I : Im} {H : List Own} {Γ : Env} {a : Act} {w : World} {Q : Exit → Act → World → Prop} {ops : Array Oper} {rest : List Oper}
variable {d : Nat} {y z : Operand} {ty T T' E : TypeId} {p : String} {af : Array Edge} {g : Bool} {gd : Option (Nat × Bool)} {n m : Nat} {zv : Value}
theorem St.put0 {I' : Im} {w' : World} {H' : List Own} (hs : St c I H Γ a w) (hst : StepF c.F c.I c.W I' w') (hle : Im.le I I') (ho : OwnsAll c.own I' w' H') {d : Nat} (hd : Nat.blt d c.n = true) {x : AV} {v : Value} (hx : x.h I' v) :
    St c I' H' ((d, x) :: Γ) (a.put (some d) v) w' :=
  ⟨hst, ho, (hs.env.up hle).put (by rw [hs.size]; simpa using hd) hx, by simp [Act.put, hs.size], hs.defers⟩
theorem run_newVar {w : World} {T : TypeId} {v : Value} : (newVar T v).run P w = .ok ⟨w.heap.size, 0, none⟩ (w.alloc (.cells v.cells T)) := by
  rfl
theorem ok_boxP {d : Option Tmp} {l : List AV} (h : At Γ g y (.agg l)) : Ok P H Γ g ⟨d, .box T y, ty, p, af, gd⟩ (.ptr l) :=
  fun base I a w K Q he hm hw hg k => by
    obtain ⟨cs, e, hl⟩ := h I a he hg
    unfold Oper.wp
    simp only [execOp, Instr.box, e, Sem.run_bind, run_newVar, Result.andThen_ok, Sem.run_pure, Value.cells, Oper.upon_value]
    refine k _ _ _ ⟨⟨w.heap.size, 0, none⟩, rfl, rfl, cs, by simp [Im.add], ?_⟩ (Step.allocP hm cs T (0, 0))
    have := (hl.up (Im.le_add (cs := cs) (hm.none (Nat.le_refl _))))
    refine this.cast rfl ?_
    have hlen := this.length
    simp only [List.drop_zero]
    rw [List.take_of_length_le (by omega)]
theorem cells_one {v : Value} (h : v.oneCell' = true) : v.cells = #[v] := by
  cases v <;> simp_all [Value.cells, Value.oneCell']
def AV.One (x : AV) : Prop := ∀ I v, x.h I v → v.oneCell' = true
theorem one_val {v : Value} (h : v.oneCell' = true) : (AV.val v).One := fun _ _ e => by rw [show _ = v from e]; exact h
theorem one_rows {s : Nat} {l : List (List AV)} : (AV.rows s l).One := fun _ _ ⟨_, _, e, _⟩ => by rw [e]; rfl
theorem one_ptr {l : List AV} : (AV.ptr l).One := fun _ _ ⟨_, e, _⟩ => by rw [e]; rfl
theorem St.alloc {l : List AV} {ag : Bool} (hs : St c I H Γ a w) (hd : Nat.blt d c.n = true) (hT : Ty P T ag n m zv) (hz : ∀ I, HoldsL I l zv.cells.toList)
    (k : ∀ b I a' w', St c I (H ++ [Own.box b T l]) ((d, .val (.pointer (some ⟨b, 0, none⟩))) :: Γ) a' w' → wpList P ops Q rest a' w') :
    wpList P ops Q (⟨some d, .alloc T, ty, p, af, none⟩ :: rest) a w := by
  unfold wpList
  rw [if_pos (by simp [Region.wanted])]
  left
  unfold Oper.wp
  have hzr : (zeroValue T).run P w = .ok zv w := hT.zero
  simp only [execOp, Instr.alloc, Sem.run_bind, hzr, Result.andThen_ok, run_newVar, Sem.run_pure, Oper.upon_value]
  refine k w.heap.size I _ _ (hs.put0 (hs.step.trans (Step.alloc hs.step.models _)) (Im.le_refl _) (hs.own.push (x := Own.box w.heap.size T l) hs.room rfl hs.step.models ⟨_, heap_alloc_get w _, hz I⟩) hd rfl)
theorem St.box {l : List AV} (hs : St c I H Γ a w) (hd : Nat.blt d c.n = true) (h : At Γ true y (.agg l))
    (k : ∀ b I a' w', St c I (H ++ [Own.box b T l]) ((d, .val (.pointer (some ⟨b, 0, none⟩))) :: Γ) a' w' → wpList P ops Q rest a' w') :
    wpList P ops Q (⟨some d, .box T y, ty, p, af, none⟩ :: rest) a w := by
  unfold wpList
  rw [if_pos (by simp [Region.wanted])]
  left
  obtain ⟨cs, e, hl⟩ := h I a hs.env rfl
  unfold Oper.wp
  simp only [execOp, Instr.box, e, Sem.run_bind, run_newVar, Result.andThen_ok, Sem.run_pure, Value.cells, Oper.upon_value]
  exact k w.heap.size I _ _ (hs.put0 (hs.step.trans (Step.alloc hs.step.models _)) (Im.le_refl _) (hs.own.push (x := Own.box w.heap.size T l) hs.room rfl hs.step.models ⟨_, heap_alloc_get w _, hl⟩) hd rfl)
def seg {α : Type} (l : List α) (q : Nat) (x : List α) : List α := l.take q ++ x ++ l.drop (q + x.length)
theorem run_storeVar {w : World} {ag : Bool} (hT : Ty P T ag n m zv) {b q : Nat} {cs : Array Value} {v : Value} (hb : w.heap[b]? = some (.cells cs T' (0, 0))) (hv : v.cells.size = n) (hq : q + n ≤ cs.size) (h1 : ∀ u ∈ v.cells.toList, u.oneCell' = true) :
    (storeVar T ⟨b, q, none⟩ v).run P w = .ok () (w.setRow b (seg cs.toList q v.cells.toList).toArray) := by
  have hsz : (sizeOf T).run P w = .ok n w := hT.size
  have hst := run_storeCells_at P b q T' v.cells.toList 0 cs w hb (by simp; omega) h1
  simp only [Nat.add_zero] at hst
  simp only [storeVar, Sem.run_bind, hsz, Result.andThen_ok, hv, ne_eq, not_true_eq_false, if_false, hst]
  simp [seg]
theorem store_upon {w w' : World} {v : Value} {b q : Nat} {K : Act → World → Prop} {Q : Exit → Act → World → Prop} (hy : a.eval y = .pointer (some ⟨b, q, none⟩)) (hz : a.eval z = v)
    (hr : (storeVar T ⟨b, q, none⟩ v).run P w = .ok () w') (k : K a w') : (⟨none, .store T y z, ty, p, af, gd⟩ : Oper).wp P a w K Q := by
  unfold Oper.wp
  simp only [execOp, Instr.storeAt, hy, hz, Instr.sureAddr, Sem.run_bind, Sem.run_pure, Result.andThen_ok, hr, Oper.upon_skip]
  exact k
theorem St.written {H' : List Own} {w' : World} (hs : St c I H Γ a w) (hst : StepF c.F c.I c.W I w') (ho : OwnsAll c.own I w' H') : St c I H' Γ a w' :=
  ⟨hst, ho, hs.env, hs.size, hs.defers⟩
theorem St.storeBox {ag : Bool} {b q : Nat} {l lx : List AV} {v : Value} (k : Nat) (hs : St c I H Γ a w) (hT : Ty P T ag n m zv) (hk : H[k]? = some (Own.box b T' l)) (hv : HoldsL I lx v.cells.toList) (hn : lx.length = n) (hq : Nat.ble (q + n) l.length = true) :
    ∃ w', (storeVar T ⟨b, q, none⟩ v).run P w = .ok () w' ∧ St c I (H.set k (Own.box b T' (seg l q lx))) Γ a w' := by
  obtain ⟨⟨cs, hb, hl⟩, h2⟩ := hs.own.all _ (List.mem_of_getElem? hk)
  obtain ⟨hbb, hbI, hbw⟩ := h2 b rfl
  have hlen := hl.length
  have hvl := hv.length
  have hq' : q + n ≤ l.length := Nat.le_of_ble_eq_true hq
  have hsz : cs.size = l.length := by simpa using hlen
  have hr := run_storeVar (P := P) hT (q := q) (v := v) hb (by simp at hvl; omega) (by omega) hv.one
  refine ⟨_, hr, hs.written (hs.step.write hbb hbI (by simp) rfl rfl rfl fun k' hk' => setRow_other w b k' _ hk') (hs.own.write hk rfl (by simp) (fun k' hk' => setRow_other w b k' _ fun e => hk' (by rw [e]; rfl)) ⟨_, setRow_heap w b cs _ T' _ hb, ?_⟩)⟩
  have hlx : lx.length = v.cells.toList.length := hvl.symm
  simp only [seg, hlx]
  exact ((hl.take q).append hv).append (hl.drop (q + v.cells.toList.length))
end
section
variable {P : Program} {c : Ctx} {I : Im} {H : List Own} {Γ : Env} {a : Act} {w : World} {Q : Exit → Act → World → Prop} {ops : Array Oper} {rest : List Oper}
variable {d : Nat} {y z : Operand} {ty T T' E : TypeId} {p : String} {af : Array Edge} {g : Bool} {gd : Option (Nat × Bool)} {n m : Nat} {zv : Value}
theorem wpList_here {o : Oper} (hg : o.guard = none) (h : o.wp P a w (wpList P ops Q rest) Q) : wpList P ops Q (o :: rest) a w := by
  unfold wpList
  rw [if_pos (by simp [Region.wanted, hg])]
  exact .inl h
theorem seg_one {α : Type} {l : List α} {q : Nat} {x : α} (h : q < l.length) : seg l q [x] = l.set q x := by
  rw [List.set_eq_take_append_cons_drop, if_pos h]
  simp [seg]
theorem St.store1 {b q : Nat} {l : List AV} {x : AV} (k : Nat) (hs : St c I H Γ a w) (hT : Ty P T false 1 m zv) (hy : At Γ true y (.val (.pointer (some ⟨b, q, none⟩)))) (hz : At Γ true z x) (hx : x.One)
    (hk : H[k]? = some (Own.box b T' l)) (hq : Nat.ble (q + 1) l.length = true)
    (kk : ∀ a' w', St c I (H.set k (Own.box b T' (l.set q x))) Γ a' w' → wpList P ops Q rest a' w') :
    wpList P ops Q (⟨none, .store T y z, ty, p, af, none⟩ :: rest) a w := by
  have hv := hz I a hs.env rfl
  have hc := cells_one (hx _ _ hv)
  obtain ⟨w', hr, hs'⟩ := hs.storeBox (q := q) (lx := [x]) (v := a.eval z) k hT hk (by rw [hc]; exact ⟨⟨hv, hx _ _ hv⟩, trivial⟩) rfl hq
  rw [seg_one (Nat.le_of_ble_eq_true hq)] at hs'
  exact wpList_here rfl (store_upon (hy I a hs.env rfl) rfl hr (kk _ _ hs'))
theorem St.storeS {b q : Nat} {l lx : List AV} (k : Nat) (hs : St c I H Γ a w) (hT : Ty P T true n m zv) (hy : At Γ true y (.val (.pointer (some ⟨b, q, none⟩)))) (hz : At Γ true z (.agg lx))
    (hk : H[k]? = some (Own.box b T' l)) (hn : lx.length = n) (hq : Nat.ble (q + n) l.length = true)
    (kk : ∀ a' w', St c I (H.set k (Own.box b T' (seg l q lx))) Γ a' w' → wpList P ops Q rest a' w') :
    wpList P ops Q (⟨none, .store T y z, ty, p, af, none⟩ :: rest) a w := by
  obtain ⟨cs, hv, hl⟩ := hz I a hs.env rfl
  obtain ⟨w', hr, hs'⟩ := hs.storeBox (q := q) (lx := lx) (v := a.eval z) k hT hk (by rw [hv]; exact hl) hn hq
  exact wpList_here rfl (store_upon (hy I a hs.env rfl) rfl hr (kk _ _ hs'))
theorem St.storeB {b : Nat} {l lx : List AV} (k : Nat) (hs : St c I H Γ a w) (hT : Ty P T true n m zv) (hy : At Γ true y (.val (.pointer (some ⟨b, 0, none⟩)))) (hz : At Γ true z (.agg lx))
    (hk : H[k]? = some (Own.box b T' l)) (hn : lx.length = n) (hl : l.length = n)
    (kk : ∀ a' w', St c I (H.set k (Own.box b T' lx)) Γ a' w' → wpList P ops Q rest a' w') :
    wpList P ops Q (⟨none, .store T y z, ty, p, af, none⟩ :: rest) a w :=
  hs.storeS k hT hy hz hk hn (by rw [hl]; simp) fun a' w' h => kk a' w' (by
    have e : seg l 0 lx = lx := by simp [seg]; omega
    rwa [e] at h)
theorem St.ownNil {sz : Nat} (hs : St c I H Γ a w) (T : TypeId) : St c I (H ++ [Own.row (.slice none 0 0) T sz []]) Γ a w :=
  ⟨hs.step, ⟨fun y hy => by
    rcases List.mem_append.1 hy with hy | hy
    · exact hs.own.all y hy
    · obtain rfl := by simpa using hy
      exact ⟨⟨fun r hr => by simp at hr, .inl ⟨rfl, .inl rfl⟩⟩, fun b e => by simp [Own.row, rowBlk] at e⟩,
    by rw [List.filterMap_append]; simpa [Own.row, rowBlk] using hs.own.nodup⟩, hs.env, hs.size, hs.defers⟩
theorem bare_blk {v : Value} (h : Bare v) : rowBlk v = none := by
  rcases h with rfl | ⟨q, rfl, _⟩ <;> simp [rowBlk]
theorem St.own0 {v : Value} {sz : Nat} (hs : St c I H Γ a w) (T : TypeId) (hv : Bare v) : St c I (H ++ [Own.row v T sz []]) Γ a w :=
  ⟨hs.step, ⟨fun y hy => by
    rcases List.mem_append.1 hy with hy | hy
    · exact hs.own.all y hy
    · obtain rfl := by simpa using hy
      exact ⟨⟨fun r hr => by simp at hr, .inl ⟨rfl, hv⟩⟩, fun b e => by rw [show (Own.row v T sz []).blk = rowBlk v from rfl, bare_blk hv] at e; cases e⟩,
    by rw [List.filterMap_append]
       have : ([Own.row v T sz []] : List Own).filterMap Own.blk = [] := by
         rw [List.filterMap_cons, show (Own.row v T sz []).blk = rowBlk v from rfl, bare_blk hv]; rfl
       rw [this, List.append_nil]; exact hs.own.nodup⟩, hs.env, hs.size, hs.defers⟩
theorem flatten_length {α : Type} {sz : Nat} : ∀ {l : List (List α)}, (∀ r ∈ l, r.length = sz) → l.flatten.length = l.length * sz
  | [], _ => by simp
  | x :: l, h => by
    rw [List.flatten_cons, List.length_append, h x (by simp), flatten_length (fun r hr => h r (by simp [hr])), List.length_cons, Nat.succ_mul, Nat.add_comm]
def RowAt (w : World) (E : TypeId) (sz : Nat) (v : Value) (k : Nat) (xs : List Value) : Prop :=
  xs.length = k * sz ∧ ((k = 0 ∧ Bare v) ∨ ∃ b cap cur, v = .slice (some ⟨b, 0, none⟩) k cap ∧ 0 < cap ∧ w.heap[b]? = some (.cells cur E (0, 0)) ∧ k ≤ cap ∧ cap ≤ maxLen ∧ cur.size = cap * sz ∧ cur.toList.take (k * sz) = xs)
theorem append_cases {v : Value} {i : TypeInfo} {sz k mm : Nat} {xs : List Value} (hU : P.underlying T = some (.slice E)) (hi : P.info? E = some i) (hz : i.zero = some zv) (h1 : i.size = sz) (h2 : i.bytes = m) (hzs : zv.cells.size = sz)
    (hown : RowAt w E sz v k xs) (ad : Addr) (cp : Nat) (cs : List Value) (hl : cs.length = mm * sz) (hc : ∀ j u, cs[j]? = some u → w.cell? (ad.add j) = some u) (h11 : ∀ u ∈ cs, u.oneCell' = true)
    (h63 : k + mm ≤ maxLen) (hb : (k + mm) * m ≤ 140737488355328) :
    ∃ v' w', (Builtin.append_ #[T, T] ty #[v, .slice (some ad) mm cp]).run P w = .ok v' w' ∧ RowAt w' E sz v' (k + mm) (xs ++ cs) ∧
      ((v' = v ∧ w' = w) ∨ (∃ g cap cap' cur, v = .slice (some ⟨g, 0, none⟩) k cap ∧ 0 < cap ∧ v' = .slice (some ⟨g, 0, none⟩) (k + mm) cap' ∧ 0 < cap' ∧ w' = w.setRow g cur) ∨
       ∃ cap' cur, v' = .slice (some ⟨w.heap.size, 0, none⟩) (k + mm) cap' ∧ 0 < cap' ∧ w' = w.drew.alloc (.cells cur E)) := by
  subst h1 h2
  have h63' : k + mm ≤ 9223372036854775807 := by simp only [maxLen] at h63; omega
  have hxl := hown.1
  have hlen : (xs ++ cs).length = (k + mm) * i.size := by rw [List.length_append, hxl, hl, Nat.add_mul]
  have fresh : ∀ old, 0 < k + mm → RowAt (w.drew.alloc (.cells (xs.toArray ++ cs.toArray ++ Builtin.zeroCells zv.cells (grownCap w (k + mm) old E - (k + mm))) E)) E i.size
      (.slice (some ⟨w.heap.size, 0, none⟩) (k + mm) (grownCap w (k + mm) old E)) (k + mm) (xs ++ cs) := fun old hpos => by
    have hge := grownCap_ge w (k + mm) old E
    refine ⟨hlen, .inr ⟨w.heap.size, _, _, rfl, by omega, heap_alloc_get w.drew _, hge, grownCap_le_maxLen w (k + mm) old E h63, ?_, ?_⟩⟩
    · have e1 := size_zeroCells zv.cells (grownCap w (k + mm) old E - (k + mm))
      rw [Array.size_append, Array.size_append, e1, hzs]
      simp only [List.size_toArray, hxl, hl, ← Nat.add_mul]
      congr 1; omega
    · simp only [Array.toList_append, List.append_assoc]
      rw [← List.append_assoc, ← hlen]
      exact List.take_left
  have hgp : ∀ old, 0 < k + mm → 0 < grownCap w (k + mm) old E := fun old h => by have := grownCap_ge w (k + mm) old E; omega
  rcases hown.2 with ⟨rfl, hbare⟩ | ⟨g, cap, cur, rfl, hcap0, hg, hkc, hcm, hcs, htake⟩
  · obtain rfl : xs = [] := List.eq_nil_of_length_eq_zero (by simpa using hxl)
    rcases Nat.eq_zero_or_pos mm with rfl | hpos
    · obtain rfl : cs = [] := List.eq_nil_of_length_eq_zero (by simpa using hl)
      refine ⟨v, w, ?_, ⟨by simp, .inl ⟨rfl, hbare⟩⟩, .inl ⟨rfl, rfl⟩⟩
      rcases hbare with rfl | ⟨q, rfl, _⟩
      · simp [Builtin.append_, run_underlying hU, sizeOf, typeInfo, hi, Builtin.lenOf, Builtin.firstCells, loadCells, loadCellsFrom]
      · simp [Builtin.append_, run_underlying hU, sizeOf, typeInfo, hi, Builtin.lenOf, Builtin.firstCells, loadCells, loadCellsFrom, storeCells]
    · rcases hbare with rfl | ⟨q, rfl, _⟩
      · have hr := run_append_nil (P := P) w T ty E i zv hU hi hz ad mm cp cs hl hc hpos (by omega) (by simp only [Nat.zero_add] at hb; omega)
        have hf := fresh 0 (by omega)
        have hg0 := hgp 0 (by omega)
        simp only [Nat.zero_add, List.nil_append, Array.empty_append] at hf hg0 ⊢
        exact ⟨_, _, hr, hf, .inr (.inr ⟨_, _, rfl, hg0, rfl⟩)⟩
      · have hr := run_append_grow (P := P) w T ty E i zv hU hi hz q 0 0 [] (by simp) (fun j u h => by simp at h) ad mm cp cs hl hc (by omega) (by omega) (growslice_fits (by omega) hb)
        exact ⟨_, _, hr, fresh 0 (by omega), .inr (.inr ⟨_, _, rfl, hgp 0 (by omega), rfl⟩)⟩
  · by_cases hroom : k + mm ≤ cap
    · have hfit : k * i.size + cs.length ≤ cur.size := by rw [hl, hcs, ← Nat.add_mul]; exact Nat.mul_le_mul_right _ hroom
      have hr := run_append_room (P := P) w T ty E i hU hi g k cap cur hg ad mm cp cs hl hc h11 hroom hfit
      refine ⟨_, _, hr, ⟨hlen, .inr ⟨g, cap, _, rfl, hcap0, setRow_heap w g cur _ E _ hg, hroom, hcm, ?_, ?_⟩⟩, .inr (.inl ⟨g, cap, cap, _, rfl, hcap0, rfl, hcap0, rfl⟩)⟩
      · simp only [List.size_toArray, List.length_append, List.length_take, List.length_drop, Array.length_toList]
        omega
      · rw [htake, ← hlen]
        exact List.take_left
    · have holds : ∀ j u, xs[j]? = some u → w.cell? ((⟨g, 0, none⟩ : Addr).add j) = some u := fun j u hu => by
        rw [add_plain]
        simp only [World.cell?, hg, Option.isSome_none, Bool.false_eq_true, if_false]
        rw [← htake, List.getElem?_take] at hu
        split at hu
        · simpa using hu
        · cases hu
      have hr := run_append_grow (P := P) w T ty E i zv hU hi hz ⟨g, 0, none⟩ k cap xs hxl holds ad mm cp cs hl hc (by omega) (by omega) (growslice_fits (by omega) hb)
      exact ⟨_, _, hr, fresh cap (by omega), .inr (.inr ⟨_, _, rfl, hgp cap (by omega), rfl⟩)⟩
theorem row_at {I : Im} {w : World} {E : TypeId} {sz : Nat} {v : Value} {l : List (List AV)} (h : (Own.row v E sz l).ok I w) : ∃ xs, RowAt w E sz v l.length xs ∧ HoldsL I l.flatten xs := by
  obtain ⟨hsz, ⟨rfl, hb⟩ | ⟨b, cap, cur, e, h0, h1, h2, h3, h4, h5⟩⟩ := h
  · exact ⟨[], ⟨by simp, .inl ⟨rfl, hb⟩⟩, trivial⟩
  · exact ⟨_, ⟨by rw [h5.length, flatten_length hsz], .inr ⟨b, cap, cur, e, h0, h1, h2, h3, h4, rfl⟩⟩, h5⟩
theorem row_of {I : Im} {w : World} {E : TypeId} {sz : Nat} {v : Value} {l : List (List AV)} {xs : List Value} (hsz : ∀ r ∈ l, r.length = sz) (h : RowAt w E sz v l.length xs) (hx : HoldsL I l.flatten xs) : (Own.row v E sz l).ok I w := by
  obtain ⟨_, ⟨h0, hb⟩ | ⟨b, cap, cur, e, h0, h1, h2, h3, h4, rfl⟩⟩ := h
  · exact ⟨hsz, .inl ⟨List.eq_nil_of_length_eq_zero h0, hb⟩⟩
  · exact ⟨hsz, .inr ⟨b, cap, cur, e, h0, h1, h2, h3, h4, hx⟩⟩
theorem OwnsAll.renew {base : Nat → Prop} {w' : World} {k : Nat} {x x' : Own} (h : OwnsAll base I w H) (hm : Models w I) (hb : base w.heap.size) (hk : H[k]? = some x) (hblk : x'.blk = some w.heap.size)
    (hst : Step I w I w') (hlt : w.heap.size < w'.heap.size) (ok : x'.ok I w') : OwnsAll base I w' (H.set k x') := by
  have h' := h.step hst
  refine ⟨fun y hy => ?_, filterMap_set_nodup h.nodup fun b e => .inr fun y hy e' => ?_⟩
  · rcases List.mem_or_eq_of_mem_set hy with hy | rfl
    · exact h'.all y hy
    · exact ⟨ok, fun b e => by rw [hblk] at e; cases e; exact ⟨hb, hm.none (Nat.le_refl _), hlt⟩⟩
  · rw [hblk] at e; cases e
    have := ((h.all y hy).2 _ e').2.2
    omega
theorem Step.drewAlloc {w : World} {I : Im} (h : Models w I) (o : Obj) : Step I w I (w.drew.alloc o) :=
  ⟨Im.le_refl _, fun _ _ => rfl, Models.alloc (w := w.drew) h o, ((Below.refl w.heap.size w).drew).alloc (Nat.le_refl _) _⟩
theorem St.appendRow {v : Value} {sz : Nat} {l l2 : List (List AV)} {x : Value} {ag : Bool} (k : Nat) (hs : St c I H Γ a w) (hU : P.underlying T = some (.slice E)) (hE : Ty P E ag sz m zv) (hzs : zv.cells.size = sz)
    (hk : H[k]? = some (Own.row v E sz l)) (hx : (AV.rows sz l2).h I x) (hb : (l.length + l2.length) * m ≤ 140737488355328) (h63 : l.length + l2.length ≤ maxLen) :
    ∃ v' w', (Builtin.append_ #[T, T] ty #[v, x]).run P w = .ok v' w' ∧ St c I (H.set k (Own.row v' E sz (l ++ l2))) Γ a w' := by
  obtain ⟨hok0, h2⟩ := hs.own.all _ (List.mem_of_getElem? hk)
  have hr1 := hok0.1
  obtain ⟨xs, hown, hl⟩ := row_at hok0
  obtain ⟨q, cap, e, g1, g2, g3, g4, g5⟩ := hx
  obtain ⟨i, hi, hi1, hi2, hi3⟩ := hE.get
  have hkl : k < H.length := (List.getElem?_eq_some_iff.1 hk).1
  have hsame : H.set k (Own.row v E sz l) = H := by
    rw [List.getElem?_eq_getElem hkl] at hk
    have hk' : H[k] = Own.row v E sz l := by simpa using hk
    rw [← hk']; exact List.set_getElem_self hkl
  cases q with
  | none =>
    have hl2 : l2 = [] := g4.resolve_right (fun ⟨_, h, _⟩ => by cases h)
    subst hl2
    have hcap := g5 rfl
    subst hcap
    refine ⟨v, w, ?_, ?_⟩
    · rw [e]
      rcases hown.2 with ⟨h0, rfl | ⟨q, rfl, _⟩⟩ | ⟨b, cap, cur, rfl, _, _, hkc, _⟩
      · simp [Builtin.append_, run_underlying hU, sizeOf, typeInfo, hi, Builtin.lenOf, Builtin.firstCells]
      · simp [Builtin.append_, run_underlying hU, sizeOf, typeInfo, hi, Builtin.lenOf, Builtin.firstCells, storeCells]
      · simp [Builtin.append_, run_underlying hU, sizeOf, typeInfo, hi, Builtin.lenOf, Builtin.firstCells, storeCells, hkc]
    · rw [List.append_nil, hsame]; exact hs
  | some q =>
    have hnews : ∃ cs : List Value, HoldsL I l2.flatten cs ∧ ∀ j u, cs[j]? = some u → w.cell? (q.add j) = some u := by
      rcases g4 with rfl | ⟨q, hq, kk⟩
      · exact ⟨[], trivial, fun j u h => by simp at h⟩
      · cases hq
        obtain ⟨b, off, s⟩ := q
        obtain rfl : s = none := kk.1
        obtain ⟨cs, h1, h2, h3⟩ := kk.toArray hs.step.models
        exact ⟨cs, h2, h3⟩
    obtain ⟨cs, hcs, hcell⟩ := hnews
    have hlen : cs.length = l2.length * sz := by rw [hcs.length, flatten_length g3]
    obtain ⟨v', w', hr, hown', hw⟩ := append_cases (P := P) (ty := ty) hU hi hi3 hi1 hi2 hzs hown q cap cs hlen hcell hcs.one h63 hb
    refine ⟨v', w', by rw [e]; exact hr, ?_⟩
    have hok : (Own.row v' E sz (l ++ l2)).ok I w' := row_of (xs := xs ++ cs) (fun r hr => by
      rcases List.mem_append.1 hr with hr | hr
      · exact hr1 r hr
      · exact g3 r hr) (by rw [List.length_append]; exact hown') (by rw [List.flatten_append]; exact hl.append hcs)
    rcases hw with ⟨rfl, rfl⟩ | ⟨gg, cap1, cap2, cur, rfl, hc1, rfl, hc2, rfl⟩ | ⟨cap2, cur, rfl, hc2, rfl⟩
    · refine hs.written hs.step ⟨fun y hy => ?_, filterMap_set_nodup hs.own.nodup fun b hb => .inl ⟨_, hk, hb⟩⟩
      rcases List.mem_or_eq_of_mem_set hy with hy | rfl
      · exact hs.own.all y hy
      · exact ⟨hok, h2⟩
    · have hb1 : rowBlk (.slice (some ⟨gg, 0, none⟩) l.length cap1) = some gg := rowBlk_some (by omega)
      have hb2 : ∀ n, rowBlk (.slice (some ⟨gg, 0, none⟩) n cap2) = some gg := fun n => rowBlk_some (by omega)
      obtain ⟨k1, k2, k3⟩ := h2 gg hb1
      exact hs.written (hs.step.write k1 k2 (by simp) rfl rfl rfl fun k' hk' => setRow_other w gg k' _ hk') (hs.own.write hk (by rw [row_blk, row_blk, hb1, hb2]) (by simp) (fun k' hk' => setRow_other w gg k' _ fun e => hk' (by rw [e]; exact hb1.symm)) hok)
    · have st := Step.drewAlloc hs.step.models (.cells cur E)
      exact hs.written (hs.step.trans st) (hs.own.renew hs.step.models hs.room hk (row_blk_some (by omega)) st (by simp) hok)
theorem St.append {v : Value} {sz : Nat} {l l2 : List (List AV)} {ag : Bool} (k : Nat) (hs : St c I H Γ a w) (hd : Nat.blt d c.n = true) (hU : P.underlying T = some (.slice E)) (hE : Ty P E ag sz m zv) (hzs : zv.cells.size = sz)
    (hy : At Γ true y (.val v)) (hz : At Γ true z (.rows sz l2)) (hk : H[k]? = some (Own.row v E sz l)) (hb : (l.length + l2.length) * m ≤ 140737488355328 ∧ l.length + l2.length ≤ 140737488355328)
    (kk : ∀ v' a' w', St c I (H.set k (Own.row v' E sz (l ++ l2))) ((d, .val v') :: Γ) a' w' → wpList P ops Q rest a' w') :
    wpList P ops Q (⟨some d, .call ⟨.builtin .append, #[y, z], #[T, T]⟩, ty, p, af, none⟩ :: rest) a w := by
  obtain ⟨v', w', hr, hs'⟩ := hs.appendRow (ty := ty) k hU hE hzs hk (hz I a hs.env rfl) hb.1 (by simp only [maxLen]; omega)
  refine wpList_here rfl ?_
  have e1 : a.eval y = v := hy I a hs.env rfl
  unfold Oper.wp
  simp only [execOp, resolve, invoke, builtin, Sem.run_bind, Sem.run_pure, Result.andThen_ok, List.map_toArray, List.map_cons, List.map_nil, e1, hr]
  exact kk v' _ _ (hs'.put0 hs'.step (Im.le_refl _) hs'.own hd rfl)
end
end Go.Proofs.YtkoebplikhlapaaGreatDoor
