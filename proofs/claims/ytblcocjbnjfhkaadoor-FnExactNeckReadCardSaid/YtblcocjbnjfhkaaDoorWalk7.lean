/- Walks: what the program writes. -/
import Derived.Test.YtblcocjbnjfhkaaDoorWalk6
set_option linter.unusedVariables false
set_option linter.unusedSimpArgs false
set_option maxRecDepth 100000
namespace Go.Proofs.YtblcocjbnjfhkaaDoor
open Go Go.RowKit


theorem elt_range {k : Nat} (h : k < (List.range 11).length) : elt (List.range 11) k = k := by
  simp only [List.length_range] at h
  simp [elt, List.getD_eq_getElem?_getD, h]
theorem write_first {e : Ev} {k : Nat} (hk : k < 11) (h : (formAt k).write e ≠ []) : (formAt k).write e = writeEv e := by
  rw [writeEv_eq]
  exact (form_write e k hk).resolve_left h
theorem write_none {e : Ev} (h : ∀ i, i < 11 → (formAt i).write e = []) : writeEv e = [] := by
  rw [writeEv_eq]
  refine Classical.byContradiction fun hn => ?_
  obtain ⟨j, hj, he⟩ := some_form e hn
  exact hn (by rw [← he]; exact h j hj)

theorem c_impl_writeEvent (e : Ev) (he : e.Fit) :
    Fn Tryd.prog 17 [AV.tab e.av] (AV.text (writeEv e)) := by
  refine Fn.intro 19 Tryd.func17 rfl Tryd.ntmps17 rfl (by kernel_rfl) (fun W I a hs => ?_)
  refine wp_seq ?_
  refine St.region ?_
  refine hs.op rfl rfl rfl (ok_boxP (.untab rfl)) fun I a w hs => ?_
  refine hs.op rfl rfl rfl (ok_assign .c) fun I a w hs => ?_
  refine wpList_nil ?_
  refine then_n ?_
  refine wp_seq ?_
  refine wp_seq ?_
  refine St.region ?_
  refine hs.op rfl rfl rfl (ok_call (c_impl_forms ..) args_nil) fun I a w hs => ?_
  refine hs.op rfl rfl rfl ((by first | exact ok_lenM un59 (.t rfl) | exact ok_len un59 (.t rfl) | exact ok_lenV un59 (.t rfl))) fun I a w hs => ?_
  refine hs.op rfl rfl rfl (ok_move .c) fun I a w hs => ?_
  refine wpList_nil ?_
  refine then_n ?_
  refine wp_block ?_
  refine St.loopS (σ := Nat) (2 :: 4 :: 5 :: 8 :: 9 :: 10 :: 11 :: 12 :: 13 :: 14 :: 15 :: 16 :: 17 :: 18 :: []) ⟨fun k => [(8, AV.int k)], fun k => [], fun k => k ≤ 11 ∧ ∀ i, i < k → (formAt i).write e = []⟩ (fun k => 11 - k) 0 hs rfl ?ok1 ?env1 ?round1
  case ok1 => exact ⟨by omega, fun i hi => by omega⟩
  case env1 => exact (Env.le_consE rfl (by rfl) Env.le_nil)
  case round1 =>
    rintro k I a w hok hs
    obtain ⟨hk, hall⟩ := hok
    refine wp_seq ?_
    refine St.region ?_
    refine hs.op rfl rfl rfl (ok_lss (.t rfl) (.t rfl)) fun I a w hs => ?_
    refine wpList_nil ?_
    refine then_n ?_
    refine wp_seq ?_
    refine hs.cond (.t rfl) (fun hb1 => ?_) (fun hb1 => ?_)
    · try simp only [decide_eq_true_eq, decide_eq_false_iff_not, Bool.not_eq_true', Bool.not_eq_false', Bool.and_eq_true, Bool.or_eq_true, Bool.and_eq_false_iff, Bool.or_eq_false_iff, beq_iff_eq, bne_iff_ne, bne_eq_false_iff_eq, beq_eq_false_iff_ne, ne_eq, Int.not_lt, Int.not_le, Int.ofNat_lt, Int.ofNat_le] at hb1
      refine wp_skip ?_
      refine then_n ?_
      refine wp_seq ?_
      refine wp_block ?_
      refine wp_seq ?_
      refine St.region ?_
      have hkr := elt_range hb1
      have hj : elt (List.range 11) k < 11 := by rw [hkr]; simpa using hb1
      refine hs.op rfl rfl rfl ((by first | exact ok_idxN un59 ty63 (.t rfl) (.t rfl) (fun _ => by exact hb1) | exact ok_idxM un59 ty63 (.t rfl) (.t rfl) (fun _ => by exact hb1) | exact ok_idx un59 ty63 (.t rfl) (.t rfl) (fun _ => by exact hb1))) fun I a w hs => ?_
      refine hs.op rfl rfl rfl ((by first | exact ok_loadA ty63 (.t rfl) rfl | exact ok_loadS ty63 (.t rfl) rfl)) fun I a w hs => ?_
      refine hs.alloc rfl ty63 zc63 fun b4 I a w hs => ?_
      refine hs.storeB 0 ty63 (.t rfl) (.t rfl) rfl (by first | rfl | assumption) rfl fun a w hs => ?_
      obtain ⟨I, hs, hf⟩ := hs.freezeBox 0 rfl
      have hs := hs.upd (t := 4) rfl hf; clear hf
      refine wpList_nil ?_
      refine then_n ?_
      refine wp_seq ?_
      refine St.region ?_
      refine hs.op rfl rfl rfl ((by first | exact ok_loadA ty63 (.t rfl) rfl | exact ok_loadS ty63 (.t rfl) rfl)) fun I a w hs => ?_
      refine hs.op rfl rfl rfl ((by first | exact ok_loadA ty35 (.t rfl) rfl | exact ok_loadS ty35 (.t rfl) rfl)) fun I a w hs => ?_
      refine hs.op rfl rfl rfl (ok_call (c_impl_form_write _ hj e he) (args_cons (.t rfl) (args_cons (.tab (t := 0) rfl (.t rfl)) args_nil))) fun I a w hs => ?_
      refine hs.op rfl rfl rfl (ok_assign (.t rfl)) fun I a w hs => ?_
      refine wpList_nil ?_
      refine then_n ?_
      refine wp_seq ?_
      refine St.region ?_
      refine hs.op rfl rfl rfl (ok_move (.t rfl)) fun I a w hs => ?_
      refine hs.op rfl rfl rfl (ok_neT (.t rfl) .c) fun I a w hs => ?_
      refine wpList_nil ?_
      refine then_n ?_
      refine hs.cond (.t rfl) (fun hb2 => ?_) (fun hb2 => ?_)
      · try simp only [decide_eq_true_eq, decide_eq_false_iff_not, Bool.not_eq_true', Bool.not_eq_false', Bool.and_eq_true, Bool.or_eq_true, Bool.and_eq_false_iff, Bool.or_eq_false_iff, beq_iff_eq, bne_iff_ne, bne_eq_false_iff_eq, beq_eq_false_iff_ne, ne_eq, Int.not_lt, Int.not_le, Int.ofNat_lt, Int.ofNat_le] at hb2
        refine wp_seq ?_
        refine St.region ?_
        refine hs.op rfl rfl rfl (ok_move (.t rfl)) fun I a w hs => ?_
        refine hs.op rfl rfl rfl (ok_assign (.t rfl)) fun I a w hs => ?_
        refine wpList_nil ?_
        refine then_n ?_
        refine wp_ret ?_
        refine block_r ?_
        refine then_r ?_
        refine then_r ?_
        refine block_r ?_
        refine then_r ?_
        refine hs.ret rfl (.cons (.t rfl) ResL.nil) ?_
        exact ret_av (congrArg AV.text (write_first hj hb2))
      · try simp only [decide_eq_true_eq, decide_eq_false_iff_not, Bool.not_eq_true', Bool.not_eq_false', Bool.and_eq_true, Bool.or_eq_true, Bool.and_eq_false_iff, Bool.or_eq_false_iff, beq_iff_eq, bne_iff_ne, bne_eq_false_iff_eq, beq_eq_false_iff_ne, ne_eq, Int.not_lt, Int.not_le, Int.ofNat_lt, Int.ofNat_le] at hb2
        refine wp_skip ?_
        refine block_n ?_
        refine then_n ?_
        refine St.region ?_
        refine hs.op rfl rfl rfl (ok_add (.t rfl) .c (fun _ => by omega)) fun I a w hs => ?_
        refine hs.op rfl rfl rfl (ok_move (.t rfl)) fun I a w hs => ?_
        refine wpList_nil ?_
        refine then_n ?_
        have hs := hs.drop 0
        refine hs.again (k + 1) ?mu1 ?ok1001 (by rfl) ?env1001 (by repeat (first | exact Env.le_rfl | refine Env.le_push rfl ?_))
        case mu1 => simp at hb1; omega
        case ok1001 => exact ⟨by simp at hb1; omega, fun i h1 => by rcases Nat.lt_succ_iff_lt_or_eq.1 h1 with h | h; exact hall i h; rw [hkr] at hb2; rw [h]; exact hb2⟩
        case env1001 => exact (Env.le_consE rfl (by first | rfl | (congr 1; done)) Env.le_nil)
    · try simp only [decide_eq_true_eq, decide_eq_false_iff_not, Bool.not_eq_true', Bool.not_eq_false', Bool.and_eq_true, Bool.or_eq_true, Bool.and_eq_false_iff, Bool.or_eq_false_iff, beq_iff_eq, bne_iff_ne, bne_eq_false_iff_eq, beq_eq_false_iff_ne, ne_eq, Int.not_lt, Int.not_le, Int.ofNat_lt, Int.ofNat_le] at hb1
      refine wp_exit ?_
      refine then_x ?_
      refine then_x ?_
      refine block_hit ?_
      refine then_n ?_
      refine wp_seq ?_
      refine St.region ?_
      refine hs.op rfl rfl rfl (ok_assign .c) fun I a w hs => ?_
      refine wpList_nil ?_
      refine then_n ?_
      refine wp_ret ?_
      refine hs.ret rfl (.cons (.t rfl) ResL.nil) ?_
      exact ret_av (congrArg AV.text (write_none (fun i hi => hall i (by simp at hb1; omega))).symm)


/-! ### The builder -/
def Own.bbox (b : Nat) (v : Value) : Own :=
  ⟨some b, fun _ w => ∃ p, w.heap[b]? = some (.cells #[p, v] 43 (0, 0)) ∧ (p = .pointer none ∨ p = .pointer (some ⟨b, 0, none⟩)),
   fun _ _ _ _ _ hb ⟨p, e, h⟩ => ⟨p, (hb b rfl).trans e, h⟩⟩
def Own.bbuf (v : Value) (bs : List UInt8) : Own :=
  ⟨v.ownBlock, fun _ w => w.ownsRow 0 5 1 v bs.length (Lib.byteCells bs),
   fun _ _ _ _ _ hb ⟨h1, h2⟩ => ⟨h1, h2.imp id fun ⟨g, cap, cur, e, h3, h4, h5⟩ => ⟨g, cap, cur, e, h3, by rw [hb g (by rw [e]; rfl)]; exact h4, h5⟩⟩⟩
theorem isBuilder_of {base : Nat} {I : Im} {w : World} {H : List Own} {b : Nat} {v : Value} {bs : List UInt8} {i j : Nat} (hw : OwnsAll base I w H) (h1 : H[i]? = some (Own.bbox b v)) (h2 : H[j]? = some (Own.bbuf v bs)) (hij : i ≠ j) :
    Lib.IsBuilder 43 5 base b (Lib.byteCells bs) w := by
  obtain ⟨⟨p, e, hp⟩, k1⟩ := hw.all _ (List.mem_of_getElem? h1)
  obtain ⟨⟨r1, r2⟩, k2⟩ := hw.all _ (List.mem_of_getElem? h2)
  have hrow : w.ownsRow base 5 1 v (Lib.byteCells bs).length (Lib.byteCells bs) := by
    rw [Lib.byteCells_length]
    refine ⟨r1, r2.imp id fun ⟨g, cap, cur, e, h3, h4⟩ => ⟨g, cap, cur, e, (k2 g (by rw [e]; rfl)).1, h4⟩⟩
  have hne : v.ownBlock ≠ some b := fun e => own_ne hw.nodup hij h1 h2 rfl e
  rcases hp with rfl | rfl
  · exact .inl ⟨(k1 b rfl).1, v, e, hrow, hne⟩
  · exact .inr ⟨(k1 b rfl).1, v, e, hrow, hne⟩
section
variable {c : Ctx} {I : Im} {H : List Own} {Γ : Env} {a : Act} {w : World} {Q : Exit → Act → World → Prop} {ops : Array Oper} {rest : List Oper} {y z : Operand} {ty : TypeId} {p : String} {af : Array Edge} {g : Bool} {gd : Option (Nat × Bool)} {ts : Array TypeId}
theorem ok_bLen {d : Option Tmp} {b : Nat} {v : Value} {bs : List UInt8} (i j : Nat) (hij : i ≠ j) (hy : At Γ g y (.val (.pointer (some ⟨b, 0, none⟩)))) (h1 : H[i]? = some (Own.bbox b v)) (h2 : H[j]? = some (Own.bbuf v bs)) :
    Ok Tryd.prog H Γ g ⟨d, .call ⟨.value (.func 18), #[y], ts⟩, ty, p, af, gd⟩ (.int bs.length) := fun base I a w K Q he hm hw hg k => by
  have e1 : a.eval y = _ := hy I a he hg
  have hc := b_len base b (Lib.byteCells bs) w (isBuilder_of hw h1 h2 hij)
  unfold Oper.wp
  have hr : (execOp a.eval (⟨d, .call ⟨.value (.func 18), #[y], ts⟩, ty, p, af, gd⟩ : Oper)).run Tryd.prog w = .ok (.enter 18 #[.pointer (some ⟨b, 0, none⟩)]) w := by
    simp only [execOp, resolve, Act.eval]
    have hen := Enters.of (P := Tryd.prog) Tryd.func18 rfl (by kernel_rfl) #[.pointer (some ⟨b, 0, none⟩)] w
    simp [Deferred.ofValue, invoke, hen, e1, Sem.run_bind, Sem.run_pure]
  rw [hr, Oper.upon_enter]
  refine Calls.mono hc fun e w' he' => ?_
  obtain ⟨rfl, rfl⟩ := he'
  exact k _ I w' (by rw [Lib.byteCells_length]; rfl) (Step.refl hm)

def Rigid (J : Im) (x : AV) : Prop := ∀ I v, x.h I v → x.h J v
theorem rigid_val {J : Im} {v : Value} : Rigid J (.val v) := fun _ _ h => h
/-- A value that is known outright, and what is known of it. -/
def AV.pin (x : AV) (v : Value) : AV := ⟨fun I u => x.h I u ∧ u = v, fun I J u hl h => ⟨x.up I J u hl h.1, h.2⟩⟩
theorem rigid_pin {J : Im} {x : AV} {v : Value} (h : x.h J v) : Rigid J (.pin x v) := fun _ _ hh => ⟨by rw [hh.2]; exact h, hh.2⟩
theorem At.unpin {t : Nat} {x : AV} {v : Value} (h : Env.get t Γ = some (.pin x v)) : At Γ g (.tmp t) x := fun I a he _ => (he t _ h).1
theorem St.pin {t : Nat} {x : AV} (hs : St c I H Γ a w) (h : Env.get t Γ = some x) : St c I H ((t, AV.pin x (a.tmps.getD t undef)) :: Γ) a w :=
  ⟨hs.step, hs.own, fun s y e => by
    simp only [Env.get] at e
    cases hb : Nat.beq t s with
    | true =>
      rw [hb] at e; simp only [cond_true] at e; cases e
      obtain rfl : t = s := Nat.eq_of_beq_eq_true hb
      exact ⟨hs.env t _ h, rfl⟩
    | false => rw [hb] at e; exact hs.env s y (by simpa using e), hs.size, hs.defers⟩
theorem get_mem {t : Nat} {x : AV} : ∀ {Γ : Env}, Env.get t Γ = some x → ∃ p ∈ Γ, p.2 = x
  | [], h => by simp [Env.get] at h
  | q :: r, h => by
    simp only [Env.get] at h
    cases hb : Nat.beq q.1 t with
    | true => rw [hb] at h; simp at h; exact ⟨q, by simp, h⟩
    | false =>
      rw [hb] at h
      obtain ⟨p, hp, e⟩ := get_mem (by simpa using h)
      exact ⟨p, by simp [hp], e⟩
theorem EnvOk.down {J : Im} (h : EnvOk I a Γ) (hr : ∀ p ∈ Γ, Rigid J p.2) : EnvOk J a Γ := fun t x e => by
  obtain ⟨p, hp, rfl⟩ := get_mem e
  exact hr p hp _ _ (h t _ e)
/-- What a call that writes a builder leaves of the state. -/
theorem St.after {w' : World} {d : Nat} {x : AV} {u : Value} {Γ' : Env} {H' : List Own} (hs : St c I H Γ a w) (hm0 : Models c.W c.I) (hle : Env.le Γ' Γ) (hr : ∀ p ∈ Γ', Rigid c.I p.2) (hd : Nat.blt d c.n = true) (hb : Below c.W.heap.size w w') (hx : x.h c.I u)
    (hown : OwnsAll c.W.heap.size c.I w' H') : St c c.I H' ((d, x) :: Γ') (a.put (some d) u) w' := by
  have hbl := hs.step.below.trans hb
  refine ⟨Step.of_below hm0 hbl, hown, ?_, by simp [Act.put, hs.size], hs.defers⟩
  exact ((hs.le hle).env.down hr).put (by rw [hs.size]; simpa using hd) hx
theorem St.bWrite {d b : Nat} {v : Value} {bs s : List UInt8} {Γ' : Env} (hs : St c I H Γ a w) (hm0 : Models c.W c.I) (i j : Nat) (hij : i ≠ j) (h1 : H[i]? = some (Own.bbox b v)) (h2 : H[j]? = some (Own.bbuf v bs)) (hle : Env.le Γ' Γ) (hr : ∀ p ∈ Γ', Rigid c.I p.2) (hd : Nat.blt d c.n = true)
    (hy : At Γ true y (.val (.pointer (some ⟨b, 0, none⟩)))) (hz : At Γ true z (.text s)) (hl : bs.length + s.length ≤ 140737488355328)
    (k : ∀ v' a' w', St c c.I [Own.bbox b v', Own.bbuf v' (bs ++ s)] ((d, AV.any) :: Γ') a' w' → wpList Tryd.prog ops Q rest a' w') :
    wpList Tryd.prog ops Q (⟨some d, .call ⟨.value (.func 19), #[y, z], ts⟩, ty, p, af, none⟩ :: rest) a w := by
  have e1 : a.eval y = _ := hy I a hs.env rfl
  have e2 : a.eval z = _ := hz I a hs.env rfl
  have hc := b_write c.W.heap.size b (Lib.byteCells bs) ⟨s.toArray⟩ w (isBuilder_of hs.own h1 h2 hij) (by rw [Lib.byteCells_length, text_size]; exact hl) hs.step.below.size
  refine wpList_here rfl ?_
  unfold Oper.wp
  have hr' : (execOp a.eval (⟨some d, .call ⟨.value (.func 19), #[y, z], ts⟩, ty, p, af, none⟩ : Oper)).run Tryd.prog w = .ok (.enter 19 #[.pointer (some ⟨b, 0, none⟩), .string ⟨s.toArray⟩]) w := by
    simp only [execOp, resolve, Act.eval]
    have hen := Enters.of (P := Tryd.prog) Tryd.func19 rfl (by kernel_rfl) #[.pointer (some ⟨b, 0, none⟩), .string ⟨s.toArray⟩] w
    simp [Deferred.ofValue, invoke, hen, e1, e2, Sem.run_bind, Sem.run_pure]
  rw [hr', Oper.upon_enter]
  refine Calls.mono hc fun e w' he' => ?_
  obtain ⟨rfl, ⟨hB, v', hv, hrow, hne⟩, hbel⟩ := he'
  have hblt : b < w'.heap.size := (Array.getElem?_eq_some_iff.1 hv).1
  have hI : ∀ n, c.W.heap.size ≤ n → c.I n = none := fun n hn => hm0.none hn
  rw [Lib.strCells_eq, show Lib.byteCells bs ++ Lib.byteCells ((⟨s.toArray⟩ : ByteArray).data.toList) = Lib.byteCells (bs ++ s) from by simp [Lib.byteCells], Lib.byteCells_length] at hrow
  refine k v' _ _ (hs.after hm0 hle hr hd hbel (x := AV.any) trivial ⟨fun o ho => ?_, ?_⟩)
  · simp only [List.mem_cons, List.not_mem_nil, or_false] at ho
    rcases ho with rfl | rfl
    · exact ⟨⟨_, hv, .inr rfl⟩, fun n e => by cases e; exact ⟨hB, hI _ hB, hblt⟩⟩
    · refine ⟨⟨hrow.1, hrow.2.imp id fun ⟨g, cap, cur, e, h3, h4⟩ => ⟨g, cap, cur, e, Nat.zero_le _, h4⟩⟩, fun n e => ?_⟩
      obtain ⟨h3, h4⟩ := hrow.lt n e
      exact ⟨h3, hI _ h3, h4⟩
  · show ([Own.bbox b v', Own.bbuf v' (bs ++ s)].filterMap Own.blk).Nodup
    cases hv' : v'.ownBlock with
    | none => simp [Own.bbox, Own.bbuf, hv']
    | some n => simp only [Own.bbox, Own.bbuf, hv', List.filterMap_cons, List.filterMap_nil]; simp; exact fun e => hne (by rw [hv', e])
theorem St.bString {d b : Nat} {v : Value} {bs : List UInt8} (hs : St c I H Γ a w) (hm0 : Models c.W c.I) (i j : Nat) (hij : i ≠ j) (h1 : H[i]? = some (Own.bbox b v)) (h2 : H[j]? = some (Own.bbuf v bs)) (hd : Nat.blt d c.n = true)
    (hy : At Γ true y (.val (.pointer (some ⟨b, 0, none⟩)))) (k : ∀ a' w', St c c.I [] [(d, AV.text bs)] a' w' → wpList Tryd.prog ops Q rest a' w') :
    wpList Tryd.prog ops Q (⟨some d, .call ⟨.value (.func 20), #[y], ts⟩, ty, p, af, none⟩ :: rest) a w := by
  have e1 : a.eval y = _ := hy I a hs.env rfl
  have hc := b_string c.W.heap.size b bs w (isBuilder_of hs.own h1 h2 hij) hs.step.below.size
  refine wpList_here rfl ?_
  unfold Oper.wp
  have hr' : (execOp a.eval (⟨some d, .call ⟨.value (.func 20), #[y], ts⟩, ty, p, af, none⟩ : Oper)).run Tryd.prog w = .ok (.enter 20 #[.pointer (some ⟨b, 0, none⟩)]) w := by
    simp only [execOp, resolve, Act.eval]
    have hen := Enters.of (P := Tryd.prog) Tryd.func20 rfl (by kernel_rfl) #[.pointer (some ⟨b, 0, none⟩)] w
    simp [Deferred.ofValue, invoke, hen, e1, Sem.run_bind, Sem.run_pure]
  rw [hr', Oper.upon_enter]
  refine Calls.mono hc fun e w' he' => ?_
  obtain ⟨rfl, hbel⟩ := he'
  exact k _ _ (hs.after hm0 Env.le_nil (fun p hp => by simp at hp) hd hbel (x := AV.text bs) rfl (OwnsAll.nil _ _ _))
theorem St.toBuilder {b : Nat} (hs : St c I [Own.box b 43 [.val (.pointer none), .val (.slice none 0 0)]] Γ a w) : St c I [Own.bbox b (.slice none 0 0), Own.bbuf (.slice none 0 0) []] Γ a w := by
  obtain ⟨⟨cs, e, hl⟩, hb⟩ := hs.own.all _ (List.mem_singleton.2 rfl)
  refine ⟨hs.step, ⟨fun o ho => ?_, ?_⟩, hs.env, hs.size, hs.defers⟩
  · simp only [List.mem_cons, List.not_mem_nil, or_false] at ho
    rcases ho with rfl | rfl
    · refine ⟨⟨.pointer none, ?_, .inl rfl⟩, hb⟩
      rw [e]
      obtain ⟨l⟩ := cs
      match l, hl with
      | [x, y], ⟨⟨h1, _⟩, ⟨h2, _⟩, _⟩ =>
        have h1 : x = _ := h1
        have h2 : y = _ := h2
        rw [h1, h2]
    · exact ⟨⟨rfl, .inl ⟨rfl, rfl⟩⟩, fun n e => by cases e⟩
  · simp [Own.bbox, Own.bbuf, Value.ownBlock]
end

end Go.Proofs.YtblcocjbnjfhkaaDoor
