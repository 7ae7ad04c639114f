/- What is owned becomes persistent; parts of slices; struct values and literals; several results; function values. -/
import Derived.Test.YtlppgilifnkapaaGreatCut2
set_option linter.unusedVariables false
set_option linter.unusedSimpArgs false
namespace Go.Proofs.YtlppgilifnkapaaGreat
open Go Go.RowKit

theorem set_same {α : Type} {l : List α} {i : Nat} {x : α} (h : l[i]? = some x) : l.set i x = l := by
  obtain ⟨hi, rfl⟩ := List.getElem?_eq_some_iff.1 h
  exact List.set_getElem_self hi
theorem own_ne : ∀ {H : List Own} {i k b : Nat} {x y : Own}, (H.filterMap Own.blk).Nodup → i ≠ k → H[i]? = some y → H[k]? = some x → y.blk = some b → x.blk = some b → False
  | [], _, _, _, _, _, _, _, h, _, _, _ => by simp at h
  | z :: H, i, k, b, x, y, hnd, hne, hi, hk, hy, hx => by
    rw [List.filterMap_cons] at hnd
    cases i with
    | zero =>
      cases k with
      | zero => exact hne rfl
      | succ k =>
        simp at hi hk; subst hi
        rw [hy] at hnd
        exact (List.nodup_cons.1 hnd).1 (List.mem_filterMap.2 ⟨x, List.mem_of_getElem? hk, hx⟩)
    | succ i =>
      have hnd' : (H.filterMap Own.blk).Nodup := by
        cases hz : z.blk with
        | none => rw [hz] at hnd; exact hnd
        | some c => rw [hz] at hnd; exact (List.nodup_cons.1 hnd).2
      cases k with
      | zero =>
        simp at hi hk; subst hk
        rw [hx] at hnd
        exact (List.nodup_cons.1 hnd).1 (List.mem_filterMap.2 ⟨y, List.mem_of_getElem? hi, hy⟩)
      | succ k => exact own_ne (i := i) (k := k) hnd' (by omega) (by simpa using hi) (by simpa using hk) hy hx

section
variable {P : Program} {c : Ctx} {I : Im} {H : List Own} {Γ : Env} {a : Act} {w : World} {Q : Exit → Act → World → Prop} {ops : Array Oper} {rest : List Oper}
variable {d : Nat} {y z : Operand} {ty T T' E : TypeId} {p : String} {af : Array Edge} {g : Bool} {gd : Option (Nat × Bool)} {n m : Nat} {zv : Value}

/-- An owned block is let go into the ghost heap. -/
theorem St.freeze {x : Own} {b : Nat} {cs : Array Value} (k : Nat) (hs : St c I H Γ a w) (hk : H[k]? = some x) (hx : x.blk = some b) (hb : w.heap[b]? = some (.cells cs T (0, 0))) :
    St c (I.add b cs) (H.set k Own.gone) Γ a w ∧ Im.le I (I.add b cs) := by
  obtain ⟨_, h2⟩ := hs.own.all x (List.mem_of_getElem? hk)
  obtain ⟨k1, k2, k3⟩ := h2 b hx
  have hle : Im.le I (I.add b cs) := Im.le_add k2
  refine ⟨⟨⟨Im.le_trans hs.step.le hle, fun b' hb' => ?_, fun b' ds e => ?_, hs.step.below⟩, ⟨fun o ho => ?_, filterMap_set_nodup hs.own.nodup fun b e => by cases e⟩, hs.env.up hle, hs.size, hs.defers⟩, hle⟩
  · unfold Im.add; rw [if_neg (by omega)]; exact hs.step.old b' hb'
  · unfold Im.add at e
    split at e
    · rename_i h; subst h; cases e; exact ⟨T, (0, 0), hb⟩
    · exact hs.step.models b' ds e
  · rw [List.mem_iff_getElem?] at ho
    obtain ⟨i, hi⟩ := ho
    have hkl : k < H.length := (List.getElem?_eq_some_iff.1 hk).1
    by_cases hik : i = k
    · subst hik
      rw [List.getElem?_set_self hkl] at hi; cases hi
      exact ⟨trivial, fun b e => by cases e⟩
    · rw [List.getElem?_set_ne (fun e => hik e.symm)] at hi
      obtain ⟨h1, h3⟩ := hs.own.all o (List.mem_of_getElem? hi)
      refine ⟨o.keep I _ w w hle (fun _ _ => rfl) h1, fun b' e => ?_⟩
      obtain ⟨a1, a2, a3⟩ := h3 b' e
      refine ⟨a1, ?_, a3⟩
      unfold Im.add
      rw [if_neg (fun h => by subst h; exact own_ne hs.own.nodup hik hi hk e hx)]
      exact a2

theorem St.freezeRow {v : Value} {sz : Nat} {l : List (List AV)} (k : Nat) (hs : St c I H Γ a w) (hk : H[k]? = some (Own.row v E sz l)) :
    ∃ I', St c I' (H.set k Own.gone) Γ a w ∧ (AV.rows sz l).h I' v := by
  obtain ⟨⟨hsz, ⟨rfl, hbare⟩ | ⟨b, cap, cur, rfl, h0, hb, h3, h4, h5, hl⟩⟩, h2⟩ := hs.own.all _ (List.mem_of_getElem? hk)
  · refine ⟨I, ⟨hs.step, ⟨fun o ho => ?_, filterMap_set_nodup hs.own.nodup fun b e => by cases e⟩, hs.env, hs.size, hs.defers⟩, ?_⟩
    · rcases List.mem_or_eq_of_mem_set ho with ho | rfl
      · exact hs.own.all o ho
      · exact ⟨trivial, fun b e => by cases e⟩
    · rcases hbare with rfl | ⟨q, rfl, hq⟩
      · exact rows_nil sz I
      · exact ⟨some q, 0, rfl, Nat.le_refl _, by simp [maxLen], fun r hr => by simp at hr, .inl rfl, (fun h => by cases h)⟩
  · obtain ⟨hs', hle⟩ := hs.freeze k hk (b := b) (row_blk_some (by omega)) hb
    refine ⟨_, hs', some ⟨b, 0, none⟩, cap, rfl, h3, h4, hsz, ?_, (fun h => by cases h)⟩
    by_cases hl0 : l = []
    · exact .inl hl0
    · refine .inr ⟨_, rfl, rfl, cur, by simp [Im.add], (hl.up hle).cast rfl ?_⟩
      simp [flatten_length hsz]

theorem St.freezeBox {b : Nat} {l : List AV} (k : Nat) (hs : St c I H Γ a w) (hk : H[k]? = some (Own.box b T l)) :
    ∃ I', St c I' (H.set k Own.gone) Γ a w ∧ (AV.ptr l).h I' (.pointer (some ⟨b, 0, none⟩)) := by
  obtain ⟨⟨cs, hb, hl⟩, h2⟩ := hs.own.all _ (List.mem_of_getElem? hk)
  obtain ⟨hs', hle⟩ := hs.freeze k hk (b := b) rfl hb
  refine ⟨_, hs', ⟨b, 0, none⟩, rfl, rfl, cs, by simp [Im.add], (hl.up hle).cast rfl ?_⟩
  have := hl.length
  simp only [List.drop_zero]
  rw [List.take_of_length_le (by omega)]

/-- What is learnt of a value is noted at a slot that holds it. -/
theorem St.upd {t : Nat} {v : Value} {x : AV} (hs : St c I H Γ a w) (ht : Env.get t Γ = some (.val v)) (hx : x.h I v) : St c I H ((t, x) :: Γ) a w :=
  ⟨hs.step, hs.own, fun s u e => by
    simp only [Env.get] at e
    cases hb : Nat.beq t s with
    | true =>
      rw [hb] at e; simp at e; subst e
      obtain rfl : t = s := Nat.eq_of_beq_eq_true hb
      have hv : a.tmps.getD t undef = v := hs.env t _ ht
      rw [hv]; exact hx
    | false => rw [hb] at e; exact hs.env s u e, hs.size, hs.defers⟩
theorem OwnsAll.same {base : Nat} {k : Nat} {x x' : Own} (h : OwnsAll base I w H) (hk : H[k]? = some x) (hblk : x'.blk = x.blk) (ok : x'.ok I w) : OwnsAll base I w (H.set k x') :=
  h.write hk hblk rfl (fun _ _ => rfl) ok
theorem St.updBox {b q : Nat} {l : List AV} {v : Value} {x : AV} (k : Nat) (hs : St c I H Γ a w) (hk : H[k]? = some (Own.box b T l)) (hq : l[q]? = some (.val v)) (hx : x.h I v) : St c I (H.set k (Own.box b T (l.set q x))) Γ a w := by
  obtain ⟨⟨cs, hb, hl⟩, _⟩ := hs.own.all _ (List.mem_of_getElem? hk)
  refine ⟨hs.step, hs.own.same hk rfl ⟨cs, hb, ?_⟩, hs.env, hs.size, hs.defers⟩
  obtain ⟨u, hu, hv, h1⟩ := hl.get hq
  obtain rfl : u = v := hv
  have := hl.set q hx h1
  refine this.cast rfl ?_
  exact set_same hu
/-- Weakening of an owned variable's or slice's cells. -/
theorem St.own_mono {x x' : Own} (k : Nat) (hs : St c I H Γ a w) (hk : H[k]? = some x) (hblk : x'.blk = x.blk) (hx : x.ok I w → x'.ok I w) : St c I (H.set k x') Γ a w :=
  ⟨hs.step, hs.own.same hk hblk (hx (hs.own.all _ (List.mem_of_getElem? hk)).1), hs.env, hs.size, hs.defers⟩
/-- What is owned may be forgotten. -/
theorem St.drop (k : Nat) (hs : St c I H Γ a w) : St c I (H.take k) Γ a w :=
  ⟨hs.step, ⟨fun o ho => hs.own.all o (List.mem_of_mem_take ho), hs.own.nodup.sublist ((List.take_sublist k H).filterMap _)⟩, hs.env, hs.size, hs.defers⟩
end

section
variable {P : Program} {H : List Own} {Γ : Env} {g : Bool} {d : Option Tmp} {y z z' : Operand} {ty T T' E : TypeId} {p : String} {af : Array Edge} {gd : Option (Nat × Bool)} {n m : Nat} {zv : Value}

/-- A part of a slice. -/
theorem rows_part {I : Im} {sz : Nat} {l : List (List AV)} {q : Option Addr} {cap lo hi : Nat} (h : (AV.rows sz l).h I (.slice q l.length cap)) (h1 : lo ≤ hi) (h2 : hi ≤ l.length) :
    (AV.rows sz ((l.drop lo).take (hi - lo))).h I (sliced q lo hi cap sz) := by
  obtain ⟨q', cap', e, g1, g2, g3, g4, g5⟩ := h
  cases e
  have hlen : ((l.drop lo).take (hi - lo)).length = hi - lo := by simp; omega
  have hmem : ∀ r ∈ (l.drop lo).take (hi - lo), r.length = sz := fun r hr => g3 r (List.mem_of_mem_drop (List.mem_of_mem_take hr))
  refine ⟨if cap - lo = 0 then q else q.map (·.add (lo * sz)), cap - lo, ?_, by omega, by omega, hmem, ?_, ?_⟩
  · rw [hlen]
    unfold sliced
    by_cases hc : cap = lo
    · rw [if_pos hc, if_pos (by omega)]
    · rw [if_neg hc, if_neg (by omega)]
  · by_cases h0 : hi = lo
    · left; apply List.eq_nil_of_length_eq_zero; omega
    · right
      have hne : l ≠ [] := fun e => by subst e; simp at h2; omega
      obtain ⟨⟨b, off, s⟩, rfl, kk⟩ := g4.resolve_left hne
      obtain rfl : s = none := kk.1
      refine ⟨⟨b, off + lo * sz, none⟩, by rw [if_neg (by omega)]; simp [add_plain], ?_⟩
      have h3 := (kk.drop (lo * sz)).take ((hi - lo) * sz)
      have e1 : ((l.drop lo).take (hi - lo)).flatten = (l.flatten.drop (lo * sz)).take ((hi - lo) * sz) := by
        have fd : ∀ (l : List (List AV)) (k : Nat), (∀ r ∈ l, r.length = sz) → (l.drop k).flatten = l.flatten.drop (k * sz) := fun l => by
          induction l with
          | nil => intro k _; simp
          | cons x l ih =>
            intro k hl
            cases k with
            | zero => simp
            | succ k =>
              rw [List.drop_succ_cons, ih k (fun r hr => hl r (by simp [hr])), List.flatten_cons, Nat.succ_mul, Nat.add_comm, ← hl x (by simp), List.drop_append]
              simp
        have ft : ∀ (l : List (List AV)) (k : Nat), (∀ r ∈ l, r.length = sz) → (l.take k).flatten = l.flatten.take (k * sz) := fun l => by
          induction l with
          | nil => intro k _; simp
          | cons x l ih =>
            intro k hl
            cases k with
            | zero => simp
            | succ k =>
              rw [List.take_succ_cons, List.flatten_cons, ih k (fun r hr => hl r (by simp [hr])), List.flatten_cons, Nat.succ_mul, Nat.add_comm, ← hl x (by simp), List.take_append]
              simp
              rw [List.take_of_length_le (by omega)]
        rw [ft _ _ (fun r hr => g3 r (List.mem_of_mem_drop hr)), fd _ _ g3]
      rw [e1]; exact h3
  · intro hn
    cases q with
    | none => have := g5 rfl; omega
    | some q => split at hn <;> simp at hn

theorem ok_sl {s : Nat} {ag : Bool} {l : List (List AV)} {lo hi : Int} (hT : P.underlying T = some (.slice E)) (hE : Ty P E ag s m zv) (h : At Γ g y (.rows s l)) (h1 : At Γ g z (.int lo)) (h2 : At Γ g z' (.int hi)) (hb : g = true → 0 ≤ lo ∧ lo ≤ hi ∧ hi ≤ l.length) :
    Ok P H Γ g ⟨d, .slice T y (some z) (some z') none, ty, p, af, gd⟩ (.rows s ((l.drop lo.toNat).take (hi.toNat - lo.toNat))) :=
  ok_of_run fun _ I a w he _ _ hg => by
    obtain ⟨b0, b1, b2⟩ := hb hg
    have hy := h I a he hg
    obtain ⟨q, cap, e, g1, _⟩ := id hy
    rw [e] at hy
    have e1 : a.eval z = _ := h1 I a he hg
    have e2 : a.eval z' = _ := h2 I a he hg
    have hs : (sizeOf E).run P w = .ok s w := hE.size
    refine ⟨_, ?_, rows_part (lo := lo.toNat) (hi := hi.toNat) hy (by omega) (by omega)⟩
    have c1 : (0 : Int) ≤ hi := by omega
    have c2 : hi ≤ (cap : Int) := by omega
    have c3 : (hi.toNat : Int) = hi := Int.toNat_of_nonneg c1
    simp only [execOp, Option.map_some, Option.map_none, e, e1, e2, Instr.sliceAt, Sem.run_bind, run_underlying hT, Result.andThen_ok]
    simp [Instr.slice, run_underlying hT, Instr.sliceBounds, run_sliceBound, c1, c2, b0, b1, c3, hs, sliced]
theorem ok_slL {s : Nat} {ag : Bool} {l : List (List AV)} {lo : Int} (hT : P.underlying T = some (.slice E)) (hE : Ty P E ag s m zv) (h : At Γ g y (.rows s l)) (h1 : At Γ g z (.int lo)) (hb : g = true → 0 ≤ lo ∧ lo ≤ l.length) :
    Ok P H Γ g ⟨d, .slice T y (some z) none none, ty, p, af, gd⟩ (.rows s (l.drop lo.toNat)) :=
  ok_of_run fun _ I a w he _ _ hg => by
    obtain ⟨b0, b1⟩ := hb hg
    have hy := h I a he hg
    obtain ⟨q, cap, e, g1, _⟩ := id hy
    rw [e] at hy
    have e1 : a.eval z = _ := h1 I a he hg
    have hs : (sizeOf E).run P w = .ok s w := hE.size
    have := rows_part (lo := lo.toNat) (hi := l.length) hy (by omega) (by omega)
    rw [List.take_of_length_le (by simp)] at this
    refine ⟨_, ?_, this⟩
    simp only [execOp, Option.map_some, Option.map_none, e, e1, Instr.sliceAt, Sem.run_bind, run_underlying hT, Result.andThen_ok]
    simp [Instr.slice, run_underlying hT, Instr.sliceBounds, run_sliceBound, b0, b1, hs, sliced]
theorem ok_slH {s : Nat} {ag : Bool} {l : List (List AV)} {hi : Int} (hT : P.underlying T = some (.slice E)) (hE : Ty P E ag s m zv) (h : At Γ g y (.rows s l)) (h2 : At Γ g z' (.int hi)) (hb : g = true → 0 ≤ hi ∧ hi ≤ l.length) :
    Ok P H Γ g ⟨d, .slice T y none (some z') none, ty, p, af, gd⟩ (.rows s (l.take hi.toNat)) :=
  ok_of_run fun _ I a w he _ _ hg => by
    obtain ⟨b1, b2⟩ := hb hg
    have hy := h I a he hg
    obtain ⟨q, cap, e, g1, _⟩ := id hy
    rw [e] at hy
    have e2 : a.eval z' = _ := h2 I a he hg
    have hs : (sizeOf E).run P w = .ok s w := hE.size
    have := rows_part (lo := 0) (hi := hi.toNat) hy (by omega) (by omega)
    rw [List.drop_zero, Nat.sub_zero] at this
    refine ⟨_, ?_, this⟩
    have c2 : hi ≤ (cap : Int) := by omega
    simp only [execOp, Option.map_some, Option.map_none, e, e2, Instr.sliceAt, Sem.run_bind, run_underlying hT, Result.andThen_ok]
    simp [Instr.slice, run_underlying hT, Instr.sliceBounds, run_sliceBound, b1, c2, hs, sliced]

/-- One of several results. -/
theorem ok_extract {l : List AV} {i : Nat} {x : AV} (h : At Γ g y (.tup l)) (hx : l[i]? = some x) : Ok P H Γ g ⟨d, .extract y i, ty, p, af, gd⟩ x :=
  ok_of_run fun _ I a w he _ _ hg => by
    obtain ⟨cs, e, hl⟩ := h I a he hg
    obtain ⟨v, hv, hxv⟩ := hl.get hx
    refine ⟨v, ?_, hxv⟩
    have hv' : cs[i]? = some v := by simpa using hv
    simp only [execOp, e, Instr.extract]
    simp [hv']
/-- A field of a struct's value. -/
theorem ok_field1 {l : List AV} {f off size : Nat} {ft : TypeId} {x : AV} (hf : ((P.underlying T).bind fun dd => match dd with | .struct fs => (fs[f]?).map fun x => (x.offset, x.type) | _ => none) = some (off, ft)) (hT : Ty P ft false size m zv) (h : At Γ g y (.agg l)) (hx : l[off]? = some x) :
    Ok P H Γ g ⟨d, .field T y f, ty, p, af, gd⟩ x :=
  ok_of_run fun _ I a w he _ _ hg => by
    obtain ⟨cs, e, hl⟩ := h I a he hg
    obtain ⟨v, hv, hxv, _⟩ := hl.get hx
    cases hu : P.underlying T with
    | none => rw [hu] at hf; simp at hf
    | some dd =>
      rw [hu] at hf
      cases dd <;> simp at hf
      rename_i fs
      obtain ⟨fl, h1, h2, h3⟩ := hf
      refine ⟨v, ?_, hxv⟩
      have hag : (isAgg fl.type).run P w = .ok false w := by rw [h3]; exact hT.isAgg
      have hv' : cs[off]? = some v := by simpa using hv
      simp only [execOp, e, Instr.field, Sem.run_bind, run_underlying hu, Result.andThen_ok, h1, asAgg, Sem.run_pure, part, hag]
      simp [h2, hv']
end
end Go.Proofs.YtlppgilifnkapaaGreat
