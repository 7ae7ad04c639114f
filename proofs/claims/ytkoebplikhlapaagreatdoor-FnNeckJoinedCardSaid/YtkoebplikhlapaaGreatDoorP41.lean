/- Part 41: rules of the proofs, contracts of functions, plain facts. -/
import Derived.Lib.AtoiAll
import Derived.Lib.SplitLaws
import Derived.Lib.IndexBytes
import Derived.Lib.IndexLaws
import Derived.Test.YtkoebplikhlapaaGreatDoorP40
set_option linter.unusedVariables false
set_option linter.unusedSimpArgs false
set_option maxRecDepth 100000
namespace Go.Proofs.YtkoebplikhlapaaGreatDoor
open Go Go.RowKit
theorem elt_range {k : Nat} (h : k < (List.range 11).length) : elt (List.range 11) k = k := by
  simp only [List.length_range] at h
  simp [elt, List.getD_eq_getElem?_getD, h]
theorem write_first {e : Ev} {k : Nat} (hk : k < 11) (h : (formAt k).write e ≠ []) : (formAt k).write e = writeEv e := by
  rw [writeEv_eq]
  exact (form_write e k hk).resolve_left h
theorem write_none {e : Ev} (h : ∀ i, i < 11 → (formAt i).write e = []) : writeEv e = [] := by
  rw [writeEv_eq]
  refine Classical.byContradiction fun hn => ?_
  obtain ⟨j, hj, he⟩ := some_form e hn
  exact hn (by rw [← he]; exact h j hj)
theorem c_impl_writeEvent (e : Ev) (he : e.Fit) :
    Fn Tryz.prog 23 [AV.tab e.av] (AV.text (writeEv e)) := by
 refine Fn.intro 19 Tryz.func23 rfl Tryz.ntmps23 rfl (by kernel_rfl) (fun W I a hs => ?_)
 refine sr <| hs.o (ok_boxP (.untab rfl)) fun hs => hs.sc fun hs => nn <| wp_seq <| sr ?_
 refine hs.o (.cl (c_impl_forms ..)) fun hs => ?_
 refine hs.o .ln fun hs => ?_
 refine hs.mc fun hs => nn <| wp_block ?_
 refine St.lo (σ := Nat) (2 :: (run 2 4 (run 11 8 []))) ⟨fun k => [(8, AV.int k)], fun k => [], fun k => k ≤ 11 ∧ ∀ i, i < k → (formAt i).write e = []⟩ (fun k => 11 - k) 0 hs ?ok1 ?round1
 case ok1 => exact ⟨by omega, fun i hi => by omega⟩
 case round1 =>
  rintro k I a w hok hs
  obtain ⟨hk, hall⟩ := hok
  refine sr <| hs.o .lss fun hs => nn <| wp_seq ?_
  refine hs.cd (fun hb1 => ?_) fun hb1 => ?_
  ·try simp only [B] at hb1
   refine wp_skip <| then_n <| wp_seq <| wp_block <| sr ?_
   have hkr := elt_range hb1
   have hj : elt (List.range 11) k < 11 := by rw [hkr]; simpa using hb1
   refine hs.o .ix fun hs => ?_
   refine hs.o .la fun hs => ?_
   refine hs.alloc rfl ty78 zc78 fun b4 I a w hs => ?_
   refine hs.sb 0 fun hs => ?_
   obtain ⟨I, hs, hf⟩ := hs.freezeBox 0 rfl
   have hs := hs.upd (t := 4) rfl hf; clear hf
   refine nn <| sr ?_
   refine hs.o .la fun hs => ?_
   refine hs.o .la fun hs => ?_
   refine hs.o (ok_call (c_impl_form_write _ hj e he) (args_cons .tt (args_cons (.tab (t := 0) rfl .tt) args_nil))) fun hs => hs.s fun hs => nn <| sr <| hs.m fun hs => hs.o (ok_neT .tt .c) fun hs => nn ?_
   refine hs.cd (fun hb2 => ?_) fun hb2 => ?_
   ·try simp only [B] at hb2
    refine sr <| hs.m fun hs => hs.s fun hs => nn <| wp_ret <| block_r <| then_r <| then_r <| block_r <| then_r ?_
    refine hs.rt ?_
    exact ret_av (congrArg AV.text (write_first hj hb2))
   ·try simp only [B] at hb2
    refine wp_skip <| block_n <| then_n <| St.region ?_
    refine hs.o .ad fun hs => ?_
    refine hs.m fun hs => nn ?_
    have hs := hs.drop 0
    exact hs.ag (k + 1) (⟨by simp at hb1; omega, fun i h1 => by rcases Nat.lt_succ_iff_lt_or_eq.1 h1 with h | h; exact hall i h; rw [hkr] at hb2; rw [h]; exact hb2⟩) (hμ := by simp at hb1; omega)
  ·try simp only [B] at hb1
   refine wp_exit <| then_x <| then_x <| block_hit <| then_n <| sr <| hs.sc fun hs => nn <| wp_ret ?_
   refine hs.rt ?_
   exact ret_av (congrArg AV.text (write_none (fun i hi => hall i (by simp at hb1; omega))).symm)
def Own.bbox (b : Nat) (v : Value) : Own :=
  ⟨some b, fun _ w => ∃ p, w.heap[b]? = some (.cells #[p, v] 58 (0, 0)) ∧ (p = .pointer none ∨ p = .pointer (some ⟨b, 0, none⟩)),
   fun _ _ _ _ _ hb ⟨p, e, h⟩ => ⟨p, (hb b rfl).trans e, h⟩⟩
theorem own_noF {c : Ctx} (hF : c.F = noF) : ∀ b, c.own b → c.W.heap.size ≤ b := fun b h => h.elim id fun h => by rw [hF] at h; exact h.elim
def Own.bbuf (v : Value) (bs : List UInt8) : Own :=
  ⟨v.ownBlock, fun _ w => w.ownsRow 0 5 1 v bs.length (Lib.byteCells bs),
   fun _ _ _ _ _ hb ⟨h1, h2⟩ => ⟨h1, h2.imp id fun ⟨g, cap, cur, e, h3, h4, h5⟩ => ⟨g, cap, cur, e, h3, by rw [hb g (by rw [e]; rfl)]; exact h4, h5⟩⟩⟩
theorem isBuilder_of {pr : Nat → Prop} {base : Nat} {I : Im} {w : World} {H : List Own} {b : Nat} {v : Value} {bs : List UInt8} {i j : Nat} (hpr : ∀ b, pr b → base ≤ b) (hw : OwnsAll pr I w H) (h1 : H[i]? = some (Own.bbox b v)) (h2 : H[j]? = some (Own.bbuf v bs)) (hij : i ≠ j) :
    Lib.IsBuilder 58 5 base b (Lib.byteCells bs) w := by
  obtain ⟨⟨p, e, hp⟩, k1⟩ := hw.all _ (List.mem_of_getElem? h1)
  obtain ⟨⟨r1, r2⟩, k2⟩ := hw.all _ (List.mem_of_getElem? h2)
  have hrow : w.ownsRow base 5 1 v (Lib.byteCells bs).length (Lib.byteCells bs) := by
    rw [Lib.byteCells_length]
    refine ⟨r1, r2.imp id fun ⟨g, cap, cur, e, h3, h4⟩ => ⟨g, cap, cur, e, hpr _ (k2 g (by rw [e]; rfl)).1, h4⟩⟩
  have hne : v.ownBlock ≠ some b := fun e => own_ne hw.nodup hij h1 h2 rfl e
  rcases hp with rfl | rfl
  · exact .inl ⟨hpr _ (k1 b rfl).1, v, e, hrow, hne⟩
  · exact .inr ⟨hpr _ (k1 b rfl).1, v, e, hrow, hne⟩
section
variable {c : Ctx} {I : Im} {H : List Own} {Γ : Env} {a : Act} {w : World} {Q : Exit → Act → World → Prop} {ops : Array Oper} {rest : List Oper} {y z : Operand} {ty : TypeId} {p : String} {af : Array Edge} {g : Bool} {gd : Option (Nat × Bool)} {ts : Array TypeId}
theorem ok_bLen {d : Option Tmp} {b : Nat} {v : Value} {bs : List UInt8} (i j : Nat) (hij : i ≠ j) (hy : At Γ g y (.val (.pointer (some ⟨b, 0, none⟩)))) (h1 : H[i]? = some (Own.bbox b v)) (h2 : H[j]? = some (Own.bbuf v bs)) :
    Ok Tryz.prog H Γ g ⟨d, .call ⟨.value (.func 24), #[y], ts⟩, ty, p, af, gd⟩ (.int bs.length) := fun base I a w K Q he hm hw hg k => by
  have e1 : a.eval y = _ := hy I a he hg
  have hc := b_len 0 b (Lib.byteCells bs) w (isBuilder_of (fun _ _ => Nat.zero_le _) hw h1 h2 hij)
  unfold Oper.wp
  have hr : (execOp a.eval (⟨d, .call ⟨.value (.func 24), #[y], ts⟩, ty, p, af, gd⟩ : Oper)).run Tryz.prog w = .ok (.enter 24 #[.pointer (some ⟨b, 0, none⟩)]) w := by
    simp only [execOp, resolve, Act.eval]
    have hen := Enters.of (P := Tryz.prog) Tryz.func24 rfl (by kernel_rfl) #[.pointer (some ⟨b, 0, none⟩)] w
    simp [Deferred.ofValue, invoke, hen, e1, Sem.run_bind, Sem.run_pure]
  rw [hr, Oper.upon_enter]
  refine Calls.mono hc fun e w' he' => ?_
  obtain ⟨rfl, rfl⟩ := he'
  exact k _ I w' (by rw [Lib.byteCells_length]; rfl) (Step.refl hm)
def Rigid (J : Im) (x : AV) : Prop := ∀ I v, x.h I v → x.h J v
theorem rigid_val {J : Im} {v : Value} : Rigid J (.val v) := fun _ _ h => h
def AV.pin (x : AV) (v : Value) : AV := ⟨fun I u => x.h I u ∧ u = v, fun I J u hl h => ⟨x.up I J u hl h.1, h.2⟩⟩
theorem rigid_pin {J : Im} {x : AV} {v : Value} (h : x.h J v) : Rigid J (.pin x v) := fun _ _ hh => ⟨by rw [hh.2]; exact h, hh.2⟩
theorem St.pin {t : Nat} {x : AV} (hs : St c I H Γ a w) (h : Env.get t Γ = some x) : St c I H ((t, AV.pin x (a.tmps.getD t undef)) :: Γ) a w :=
  ⟨hs.step, hs.own, fun s y e => by
    simp only [Env.get] at e
    cases hb : Nat.beq t s with
    | true =>
      rw [hb] at e; simp only [cond_true] at e; cases e
      obtain rfl : t = s := Nat.eq_of_beq_eq_true hb
      exact ⟨hs.env t _ h, rfl⟩
    | false => rw [hb] at e; exact hs.env s y (by simpa using e), hs.size, hs.defers⟩
theorem get_mem {t : Nat} {x : AV} : ∀ {Γ : Env}, Env.get t Γ = some x → ∃ p ∈ Γ, p.2 = x
  | [], h => by simp [Env.get] at h
  | q :: r, h => by
    simp only [Env.get] at h
    cases hb : Nat.beq q.1 t with
    | true => rw [hb] at h; simp at h; exact ⟨q, by simp, h⟩
    | false =>
      rw [hb] at h
      obtain ⟨p, hp, e⟩ := get_mem (by simpa using h)
      exact ⟨p, by simp [hp], e⟩
theorem EnvOk.down {J : Im} (h : EnvOk I a Γ) (hr : ∀ p ∈ Γ, Rigid J p.2) : EnvOk J a Γ := fun t x e => by
  obtain ⟨p, hp, rfl⟩ := get_mem e
  exact hr p hp _ _ (h t _ e)
theorem St.after {w' : World} {d : Nat} {x : AV} {u : Value} {Γ' : Env} {H' : List Own} (hs : St c I H Γ a w) (hF : c.F = noF) (hm0 : Models c.W c.I) (hle : Env.le Γ' Γ) (hr : ∀ p ∈ Γ', Rigid c.I p.2) (hd : Nat.blt d c.n = true) (hb : Below c.W.heap.size w w') (hx : x.h c.I u)
    (hown : OwnsAll c.own c.I w' H') : St c c.I H' ((d, x) :: Γ') (a.put (some d) u) w' := by
  have hst := hs.step
  rw [hF] at hst
  have hbl := hst.below.all.trans hb
  refine ⟨(StepF.refl hm0).trans (Step.of_below hm0 hbl), hown, ?_, by simp [Act.put, hs.size], hs.defers⟩
  exact ((hs.le hle).env.down hr).put (by rw [hs.size]; simpa using hd) hx
theorem St.bWrite {d b : Nat} {v : Value} {bs s : List UInt8} {Γ' : Env} (hs : St c I H Γ a w) (hF : c.F = noF) (hm0 : Models c.W c.I) (i j : Nat) (hij : i ≠ j) (h1 : H[i]? = some (Own.bbox b v)) (h2 : H[j]? = some (Own.bbuf v bs)) (hle : Env.le Γ' Γ) (hr : ∀ p ∈ Γ', Rigid c.I p.2) (hd : Nat.blt d c.n = true)
    (hy : At Γ true y (.val (.pointer (some ⟨b, 0, none⟩)))) (hz : At Γ true z (.text s)) (hl : bs.length + s.length ≤ 140737488355328)
    (k : ∀ v' a' w', St c c.I [Own.bbox b v', Own.bbuf v' (bs ++ s)] ((d, AV.any) :: Γ') a' w' → wpList Tryz.prog ops Q rest a' w') :
    wpList Tryz.prog ops Q (⟨some d, .call ⟨.value (.func 25), #[y, z], ts⟩, ty, p, af, none⟩ :: rest) a w := by
  have e1 : a.eval y = _ := hy I a hs.env rfl
  have e2 : a.eval z = _ := hz I a hs.env rfl
  have hc := b_write c.W.heap.size b (Lib.byteCells bs) ⟨s.toArray⟩ w (isBuilder_of (own_noF hF) hs.own h1 h2 hij) (by rw [Lib.byteCells_length, text_size]; exact hl) hs.step.below.size
  refine wpList_here rfl ?_
  unfold Oper.wp
  have hr' : (execOp a.eval (⟨some d, .call ⟨.value (.func 25), #[y, z], ts⟩, ty, p, af, none⟩ : Oper)).run Tryz.prog w = .ok (.enter 25 #[.pointer (some ⟨b, 0, none⟩), .string ⟨s.toArray⟩]) w := by
    simp only [execOp, resolve, Act.eval]
    have hen := Enters.of (P := Tryz.prog) Tryz.func25 rfl (by kernel_rfl) #[.pointer (some ⟨b, 0, none⟩), .string ⟨s.toArray⟩] w
    simp [Deferred.ofValue, invoke, hen, e1, e2, Sem.run_bind, Sem.run_pure]
  rw [hr', Oper.upon_enter]
  refine Calls.mono hc fun e w' he' => ?_
  obtain ⟨rfl, ⟨hB, v', hv, hrow, hne⟩, hbel⟩ := he'
  have hblt : b < w'.heap.size := (Array.getElem?_eq_some_iff.1 hv).1
  have hI : ∀ n, c.W.heap.size ≤ n → c.I n = none := fun n hn => hm0.none hn
  rw [Lib.strCells_eq, show Lib.byteCells bs ++ Lib.byteCells ((⟨s.toArray⟩ : ByteArray).data.toList) = Lib.byteCells (bs ++ s) from by simp [Lib.byteCells], Lib.byteCells_length] at hrow
  refine k v' _ _ (hs.after hF hm0 hle hr hd hbel (x := AV.any) trivial ⟨fun o ho => ?_, ?_⟩)
  · simp only [List.mem_cons, List.not_mem_nil, or_false] at ho
    rcases ho with rfl | rfl
    · exact ⟨⟨_, hv, .inr rfl⟩, fun n e => by cases e; exact ⟨.inl hB, hI _ hB, hblt⟩⟩
    · refine ⟨⟨hrow.1, hrow.2.imp id fun ⟨g, cap, cur, e, h3, h4⟩ => ⟨g, cap, cur, e, Nat.zero_le _, h4⟩⟩, fun n e => ?_⟩
      obtain ⟨h3, h4⟩ := hrow.lt n e
      exact ⟨.inl h3, hI _ h3, h4⟩
  · show ([Own.bbox b v', Own.bbuf v' (bs ++ s)].filterMap Own.blk).Nodup
    cases hv' : v'.ownBlock with
    | none => simp [Own.bbox, Own.bbuf, hv']
    | some n => simp only [Own.bbox, Own.bbuf, hv', List.filterMap_cons, List.filterMap_nil]; simp; exact fun e => hne (by rw [hv', e])
theorem St.bString {d b : Nat} {v : Value} {bs : List UInt8} (hs : St c I H Γ a w) (hF : c.F = noF) (hm0 : Models c.W c.I) (i j : Nat) (hij : i ≠ j) (h1 : H[i]? = some (Own.bbox b v)) (h2 : H[j]? = some (Own.bbuf v bs)) (hd : Nat.blt d c.n = true)
    (hy : At Γ true y (.val (.pointer (some ⟨b, 0, none⟩)))) (k : ∀ a' w', St c c.I [] [(d, AV.text bs)] a' w' → wpList Tryz.prog ops Q rest a' w') :
    wpList Tryz.prog ops Q (⟨some d, .call ⟨.value (.func 26), #[y], ts⟩, ty, p, af, none⟩ :: rest) a w := by
  have e1 : a.eval y = _ := hy I a hs.env rfl
  have hc := b_string c.W.heap.size b bs w (isBuilder_of (own_noF hF) hs.own h1 h2 hij) hs.step.below.size
  refine wpList_here rfl ?_
  unfold Oper.wp
  have hr' : (execOp a.eval (⟨some d, .call ⟨.value (.func 26), #[y], ts⟩, ty, p, af, none⟩ : Oper)).run Tryz.prog w = .ok (.enter 26 #[.pointer (some ⟨b, 0, none⟩)]) w := by
    simp only [execOp, resolve, Act.eval]
    have hen := Enters.of (P := Tryz.prog) Tryz.func26 rfl (by kernel_rfl) #[.pointer (some ⟨b, 0, none⟩)] w
    simp [Deferred.ofValue, invoke, hen, e1, Sem.run_bind, Sem.run_pure]
  rw [hr', Oper.upon_enter]
  refine Calls.mono hc fun e w' he' => ?_
  obtain ⟨rfl, hbel⟩ := he'
  exact k _ _ (hs.after hF hm0 Env.le_nil (fun p hp => by simp at hp) hd hbel (x := AV.text bs) rfl (OwnsAll.nil _ _ _))
theorem St.toBuilder {b : Nat} (hs : St c I [Own.box b 58 [.val (.pointer none), .val (.slice none 0 0)]] Γ a w) : St c I [Own.bbox b (.slice none 0 0), Own.bbuf (.slice none 0 0) []] Γ a w := by
  obtain ⟨⟨cs, e, hl⟩, hb⟩ := hs.own.all _ (List.mem_singleton.2 rfl)
  refine ⟨hs.step, ⟨fun o ho => ?_, ?_⟩, hs.env, hs.size, hs.defers⟩
  · simp only [List.mem_cons, List.not_mem_nil, or_false] at ho
    rcases ho with rfl | rfl
    · refine ⟨⟨.pointer none, ?_, .inl rfl⟩, hb⟩
      rw [e]
      obtain ⟨l⟩ := cs
      match l, hl with
      | [x, y], ⟨⟨h1, _⟩, ⟨h2, _⟩, _⟩ =>
        have h1 : x = _ := h1
        have h2 : y = _ := h2
        rw [h1, h2]
    · exact ⟨⟨rfl, .inl ⟨rfl, rfl⟩⟩, fun n e => by cases e⟩
  · simp [Own.bbox, Own.bbuf, Value.ownBlock]
end
theorem At.pt {Γ : Env} {g : Bool} {t : Nat} {x : AV} {v : Value} (h : Env.get t Γ = some (.pin (.tab x) v)) : At Γ g (.tmp t) x := fun I a he _ => (he t _ h).1.1
theorem At.tab2 {Γ : Env} {g : Bool} {t : Nat} {o : Operand} {x y : AV} {v : Value} (h : Env.get t Γ = some (.pin (.tab y) v)) (k : At Γ g o x) : At Γ g o (AV.tab x) := fun I a he hg => ⟨k I a he hg, (he t _ h).1.2⟩
theorem writeEv_len {e : Ev} (h : e.Fit) : (writeEv e).length ≤ 96 := by
  rw [writeEv_eq]; unfold evLine
  have := lineB_len h
  split
  · simp; omega
  · simp
theorem elt_fit {l : List Ev} {k : Nat} (h : ∀ e ∈ l, e.Fit) (hk : k < l.length) : (elt l k).Fit := h _ (by rw [elt, List.getD_eq_getElem?_getD, List.getElem?_eq_getElem hk]; exact List.getElem_mem _)
theorem c_impl_NeckWrite (l : List Ev) (h : ∀ e ∈ l, e.Fit) :
    Fn Tryz.prog 12 [AV.tab (evsAV l)] (AV.text (neckW [] l)) := by
 refine Fn.intro 28 Tryz.func12 rfl Tryz.ntmps12 rfl (by kernel_rfl) (fun W I a hs => ?_)
 have hm0 := hs.step.models
 have h0 := hs.env 0 _ rfl
 have hs := hs.pin (t := 0) rfl
 generalize a.tmps.getD 0 undef = v0 at hs h0
 have hs := hs.le (Γ' := [(0, AV.pin (AV.tab (evsAV l)) v0)]) (Env.le_consE rfl rfl Env.le_nil)
 refine sr <| hs.sc fun hs => nn <| sr <| hs.alloc rfl ty58 (l := [.val (.pointer none), .val (.slice none 0 0)]) (fun _ => ⟨⟨rfl, rfl⟩, ⟨rfl, rfl⟩, trivial⟩) fun b3 I a w hs => ?_
 have hs := hs.toBuilder
 refine nn <| wp_seq <| sr <| hs.m fun hs => hs.o (ok_lenM un24 (.pt rfl)) fun hs => hs.mc fun hs => nn <| wp_block ?_
 refine St.lo (σ := Nat × List UInt8 × Value) (2 :: (run 2 5 (run 18 9 []))) ⟨fun ⟨k, out, v⟩ => [(9, AV.int k)], fun ⟨k, out, v⟩ => [Own.bbox b3 v, Own.bbuf v out], fun ⟨k, out, v⟩ => k ≤ l.length ∧ neckW [] l = neckW out (l.drop k) ∧ out.length ≤ 60000 ∧ l.length ≤ 9223372036854775807⟩ (fun ⟨k, out, v⟩ => l.length - k) (0, [], .slice none 0 0) hs ?ok1 ?round1
 case ok1 => exact ⟨by simp, rfl, by simp, rows_le h0.1⟩
 case round1 =>
  rintro ⟨k, out, v⟩ I a w hok hs
  obtain ⟨hk, he, hol, hll⟩ := hok
  change St _ _ [Own.bbox b3 v, Own.bbuf v out] _ _ _ at hs
  refine sr <| hs.o .lss fun hs => nn <| wp_seq ?_
  refine hs.cd (fun hb1 => ?_) fun hb1 => ?_
  ·try simp only [B] at hb1
   refine wp_skip <| then_n <| wp_seq <| wp_block <| sr ?_
   have hfe := elt_fit h hb1
   have hwl := writeEv_len hfe
   refine hs.o (ok_idxN un24 ty50 (.pt rfl) .tt (fun _ => hb1)) fun hs => ?_
   refine hs.o .la fun hs => ?_
   refine hs.alloc rfl ty50 zc50 fun b5 I a w hs => ?_
   refine hs.sb 2 fun hs => ?_
   obtain ⟨I, hs, hf⟩ := hs.freezeBox 2 rfl
   have hs := hs.upd (t := 5) rfl hf; clear hf
   refine nn <| sr ?_
   refine hs.o .la fun hs => ?_
   refine hs.o (ok_call (c_impl_writeEvent _ hfe) (args_cons (.tab2 (t := 7) rfl .tt) args_nil)) fun hs => hs.s fun hs => nn <| wp_seq <| sr <| hs.m fun hs => hs.o (ok_eqT .tt .c) fun hs => hs.m fun hs => ?_
   refine hs.q .F (ok_bLen 0 1 (by decide) .tt rfl rfl) fun hs => ?_
   refine hs.q .F .mv fun hs => ?_
   refine hs.q .F (ok_lenT un9 .ag) fun hs => ?_
   refine hs.q .F .ad fun hs => ?_
   refine hs.q .F (ok_gtr .ag .c) fun hs => ?_
   refine hs.o .or fun hs => nn ?_
   refine hs.cd (fun hb2 => ?_) fun hb2 => ?_
   ·try simp only [B] at hb2
    refine sr <| hs.sc fun hs => nn <| wp_ret <| then_r <| block_r <| then_r <| then_r <| block_r <| then_r ?_
    refine hs.rt ?_
    exact ret_av (congrArg AV.text (by rw [he, drop_elt hb1, neckW, if_pos]; rw [← writeEv_eq]; exact hb2.imp id (by omega)))
   ·try simp only [B] at hb2
    refine wp_skip <| then_n <| St.region <| hs.m fun hs => ?_
    refine hs.bWrite (hF := rfl) (Γ' := [(9, AV.int k), (8, AV.int l.length), (7, AV.pin (AV.tab (evsAV l)) v0), (3, AV.val (.pointer (some ⟨b3, 0, none⟩))), (0, AV.pin (AV.tab (evsAV l)) v0)]) hm0 0 1 (by decide) rfl rfl (Env.le_consE rfl rfl (Env.le_consE rfl rfl (Env.le_consE rfl rfl (Env.le_consE rfl rfl (Env.le_consE rfl rfl Env.le_nil))))) ?hr25 rfl .tt .tt (by omega) fun v25 a w hs => ?_
    case hr25 =>
     intro p hp
     simp only [List.mem_cons, List.not_mem_nil, or_false] at hp
     rcases hp with rfl | rfl | rfl | rfl | rfl <;> first | exact rigid_val | exact rigid_pin h0
    refine wpList_nil <| block_n <| then_n <| St.region ?_
    refine hs.o .ad fun hs => ?_
    refine hs.m fun hs => nn ?_
    exact hs.ag (k + 1, out ++ writeEv (elt l k), v25) (⟨hb1, by rw [he, drop_elt hb1, neckW, writeEv_eq, if_neg]; rw [← writeEv_eq]; exact fun hh => hh.elim hb2.1 (by omega), by simp only [List.length_append]; omega, hll⟩)
  ·try simp only [B] at hb1
   refine wp_exit <| then_x <| then_x <| block_hit <| then_n <| sr ?_
   refine hs.bString rfl hm0 0 1 (by decide) rfl rfl rfl .tt fun a w hs => ?_
   refine hs.s fun hs => nn <| wp_ret ?_
   refine hs.rt ?_
   exact ret_av (congrArg AV.text (by rw [he, List.drop_eq_nil_of_le (by omega)]; rfl))
def atoiV (s : List UInt8) : Int × Bool := match Lib.atoiAll s with
  | .ok v => (v, false)
  | .range => (Lib.atoiSat s, true)
  | _ => (0, true)
theorem uint_digits : ∀ (l : List UInt8) (acc : Nat), l.all digitB = true → (acc + 1) * 10 ^ l.length ≤ 10 ^ 15 → Lib.parseUint10 acc l = .ok (l.foldl (fun n x => n * 10 + (x.toNat - 48)) acc)
  | [], acc, _, _ => rfl
  | x :: l, acc, h, hb => by
    simp only [List.all_cons, Bool.and_eq_true, digitB, decide_eq_true_eq] at h
    have h1 : 1 ≤ 10 ^ l.length := Nat.one_le_pow _ _ (by omega)
    have h2 : acc + 1 ≤ 10 ^ 15 := Nat.le_trans (Nat.le_mul_of_pos_right _ (Nat.pow_pos (by omega))) hb
    have h3 : (acc * 10 + (x.toNat - 48) + 1) * 10 ^ l.length ≤ 10 ^ 15 := by
      refine Nat.le_trans ?_ hb
      rw [List.length_cons, Nat.pow_succ, Nat.mul_comm (10 ^ l.length) 10, ← Nat.mul_assoc]
      exact Nat.mul_le_mul_right _ (by omega)
    rw [Lib.parseUint10, if_pos h.1, if_neg (by omega), if_neg (by omega)]
    exact uint_digits l _ h.2 h3
theorem num_nat : ∀ (l : List UInt8) (acc : Nat), l.all digitB = true → l.foldl (fun (n : Int) x => n * 10 + ((x.toNat : Int) - 48)) (acc : Int) = ((l.foldl (fun n x => n * 10 + (x.toNat - 48)) acc : Nat) : Int)
  | [], _, _ => rfl
  | x :: l, acc, h => by
    simp only [List.all_cons, Bool.and_eq_true, digitB, decide_eq_true_eq] at h
    have ih := num_nat l (acc * 10 + (x.toNat - 48)) h.2
    rw [List.foldl_cons, List.foldl_cons, ← ih]
    congr 1; omega
theorem atoi_good {s : List UInt8} (h : 0 ≤ parseB s) : atoiV s = (parseB s, false) ∧ written (parseB s) = true ∧ dec (parseB s) = s := by
  have hp : parseB s = numB s ∧ (1 ≤ s.length ∧ s.length ≤ 5) ∧ s.all digitB = true ∧ dec (numB s) = s := by
    unfold parseB at h ⊢
    split at h
    · omega
    · split at h
      · split at h
        · rename_i h1 h2 h3
          rw [if_neg h1, if_pos h2, if_pos h3]
          exact ⟨rfl, ⟨by omega, by omega⟩, h2, h3⟩
        · omega
      · omega
  obtain ⟨e, ⟨l1, l5⟩, hd, hdec⟩ := hp
  have hw : written (parseB s) = true := by
    have := parse_dec (parseB s)
    rw [show dec (parseB s) = s from by rw [e]; exact hdec] at this
    cases hw : written (parseB s) with
    | true => rfl
    | false => rw [hw] at this; simp at this; omega
  refine ⟨?_, hw, by rw [e]; exact hdec⟩
  have h5 : 10 ^ s.length ≤ 10 ^ 5 := Nat.pow_le_pow_right (by omega) l5
  have hu := uint_digits s 0 hd (by omega)
  have hn : numB s = ((s.foldl (fun n x => n * 10 + (x.toNat - 48)) 0 : Nat) : Int) := num_nat s 0 hd
  cases s with
  | nil => simp at l1
  | cons c r =>
    have hc := List.all_eq_true.1 hd c (by simp)
    simp only [digitB, Bool.and_eq_true, decide_eq_true_eq] at hc
    have h0 : ¬ (c.toNat = 43 ∨ c.toNat = 45) := by omega
    have h45 : ¬ c.toNat = 45 := by omega
    have hlt : (c :: r).foldl (fun n x => n * 10 + (x.toNat - 48)) 0 < 9223372036854775808 := by
      have hw2 : written (numB (c :: r)) = true := by rw [← e]; exact hw
      simp only [written, inB, Bool.and_eq_true, decide_eq_true_eq] at hw2
      omega
    have hm : Lib.parseMag (if c.toNat = 43 ∨ c.toNat = 45 then r else c :: r) = .ok ((c :: r).foldl (fun n x => n * 10 + (x.toNat - 48)) 0) := by
      rw [if_neg h0]; unfold Lib.parseMag; rw [if_neg (by simp)]; exact hu
    rw [e, hn]
    generalize (c :: r).foldl (fun n x => n * 10 + (x.toNat - 48)) 0 = u at hm hlt
    unfold atoiV Lib.atoiAll
    simp only [hm]
    simp only [h45, not_false_eq_true, true_and, false_and, if_false]
    rw [if_neg (by omega)]
theorem atoi_bad {s : List UInt8} (h : (atoiV s).2 = false) (hw : written (atoiV s).1 = true) (hd : dec (atoiV s).1 = s) : parseB s = (atoiV s).1 ∧ 0 ≤ parseB s := by
  have := parse_dec (atoiV s).1
  rw [hd, if_pos hw] at this
  rw [this]
  simp only [written, inB, Bool.and_eq_true, decide_eq_true_eq] at hw
  exact ⟨rfl, hw.1⟩
theorem atoiV_range (s : List UInt8) : i64r (atoiV s).1 := by
  unfold atoiV
  split
  · rename_i v h
    unfold Lib.atoiAll at h
    split at h
    · cases h
    · simp only at h
      split at h
      · cases h
      · cases h
      · split at h
        · cases h
        · split at h
          · cases h
          · injection h with h
            rename_i h1 h2
            subst h
            by_cases hn : (‹UInt8› : UInt8).toNat = 45
            · simp only [hn, not_true_eq_false, false_and, true_and, if_true] at h1 h2 ⊢
              exact ⟨by omega, by omega⟩
            · simp only [hn, not_false_eq_true, true_and, false_and, if_false] at h1 h2 ⊢
              exact ⟨by omega, by omega⟩
  · unfold Lib.atoiSat; split <;> exact ⟨by decide, by decide⟩
  · exact ⟨by decide, by decide⟩
theorem lib_split (c : UInt8) : ∀ (k : Nat) (s : ByteArray), Lib.countB s ⟨#[c]⟩ = k → (Lib.splitB ⟨#[c]⟩ 0 k s).map (fun b => b.data.toList) = splitB c s.data.toList
  | k, s, h => by
    have h1 : 1 ≤ (⟨#[c]⟩ : ByteArray).size := Nat.le_refl _
    have hone : ∀ s : ByteArray, Lib.indexB s ⟨#[c]⟩ = Lib.indexByte s.data.toList c := fun s => Lib.index_one s.data.toList c
    rcases Lib.indexB_cases s ⟨#[c]⟩ with hi | ⟨i, hi, hle⟩
    · rw [Lib.splitB_miss _ _ _ _ hi]
      rw [hone] at hi
      have hno := Lib.indexByte_none hi
      rw [splitB_end]
      · rfl
      · intro x hx e
        obtain ⟨j, hj, rfl⟩ := List.getElem_of_mem hx
        exact hno j (by rw [List.getElem?_eq_getElem hj, e])
    · have hc := Lib.countB_hit s ⟨#[c]⟩ i h1 hi
      cases k with
      | zero => omega
      | succ k =>
        rw [Lib.splitB_hit _ _ _ _ _ hi, List.map_cons]
        have ih := lib_split c k (s.extract (i + (⟨#[c]⟩ : ByteArray).size) s.size) (by omega)
        rw [ih]
        rw [hone] at hi
        obtain ⟨ha, hb⟩ := Lib.indexByte_some hi
        have hil : i < s.data.toList.length := (List.getElem?_eq_some_iff.1 ha).1
        have hsz : (⟨#[c]⟩ : ByteArray).size = 1 := rfl
        have e1 : s.data.toList = s.data.toList.take i ++ c :: s.data.toList.drop (i + 1) := by
          conv => lhs; rw [← List.take_append_drop i s.data.toList, List.drop_eq_getElem_cons hil]
          rw [List.getElem?_eq_getElem hil] at ha
          cases ha; rfl
        conv => rhs; rw [e1]
        rw [splitB_cut]
        · congr 1
          · rw [Lib.extract_data]; simp
          · rw [Lib.extract_data, hsz, Lib.size_eq, List.take_of_length_le (by simp)]
        · intro x hx e
          obtain ⟨j, hj, rfl⟩ := List.getElem_of_mem hx
          simp only [List.length_take] at hj
          refine hb j (by omega) ?_
          rw [List.getElem?_eq_getElem (by omega)]
          simpa using e
def formKA (j : Nat) : Nat := formK.getD j 0
theorem form_name : ∀ j, j < 11 → (formAt j).word = names.getD (formKA j) [] ∧ 2 ≤ formKA j ∧ formKA j < 13 := by
  have : ∀ j : Fin 11, (formAt j.val).word = names.getD (formKA j.val) [] ∧ 2 ≤ formKA j.val ∧ formKA j.val < 13 := by decide
  exact fun j hj => this ⟨j, hj⟩
theorem name_form : ∀ k, 2 ≤ k → k < 13 → ∃ j, j < 11 ∧ (formAt j).word = names.getD k [] := by
  have : ∀ k : Fin 13, 2 ≤ k.val → ∃ j : Fin 11, (formAt j.val).word = names.getD k.val [] := by decide
  intro k h1 h2
  obtain ⟨j, hj⟩ := this ⟨k, h2⟩ h1
  exact ⟨j.val, j.isLt, hj⟩
theorem place_form {j : Nat} (hj : j < 11) {w : List UInt8} (h : (formAt j).word = w) : placeB w = some (formKA j) := by
  obtain ⟨h1, h2, h3⟩ := form_name j hj
  rw [← h, h1]; exact place_names _ h2 h3
theorem placeB_some {w : List UInt8} {k : Nat} (h : placeB w = some k) : 2 ≤ k ∧ k < 13 ∧ names.getD k [] = w := by
  unfold placeB at h
  have h1 := List.find?_some h
  have h2 := List.mem_of_find?_eq_some h
  simp only [Bool.and_eq_true, decide_eq_true_eq] at h1
  exact ⟨h1.1, by simpa using h2, h1.2⟩
theorem readB_noform {s : List UInt8} (h : ∀ i, i < 11 → (formAt i).word ≠ elt (splitB 32 s) 0) : readB s = none := by
  unfold readB
  simp only
  split
  · rw [headD_elt]
    cases hp : placeB (elt (splitB 32 s) 0) with
    | none => rfl
    | some k =>
      obtain ⟨h1, h2, h3⟩ := placeB_some hp
      obtain ⟨j, hj, e⟩ := name_form k h1 h2
      exact absurd (e.trans h3) (h j hj)
  · rfl
def setTo (j : Nat) (ns : List Int) : List Int := (((formAt j).offs.zip ns)).foldl (fun m p => m.set p.1 p.2) (formAt j).ev.ints
def evOf (l : List Int) : Ev := ⟨l.getD 0 0, l.getD 1 0, l.getD 2 0, l.getD 3 0, l.getD 4 0, l.getD 5 0, l.getD 6 0, l.getD 7 0, l.getD 8 0, l.getD 9 0, l.getD 10 0⟩
theorem readEv_form {j : Nat} (hj : j < 11) {ns : List Int} (hl : ns.length = (formAt j).offs.length) : readEv (formKA j) ns = some (evOf (setTo j ns)) := by
  match j, hj with
  | 0, _ => match ns, hl with | [_, _, _], _ => rfl
  | 1, _ => match ns, hl with | [_, _, _, _], _ => rfl
  | 2, _ => match ns, hl with | [_], _ => rfl
  | 3, _ => match ns, hl with | [_], _ => rfl
  | 4, _ => match ns, hl with | [_], _ => rfl
  | 5, _ => match ns, hl with | [_], _ => rfl
  | 6, _ => match ns, hl with | [_], _ => rfl
  | 7, _ => match ns, hl with | [_], _ => rfl
  | 8, _ => match ns, hl with | [_], _ => rfl
  | 9, _ => match ns, hl with | [_], _ => rfl
  | 10, _ => match ns, hl with | [_, _], _ => rfl
theorem readEv_len {j : Nat} (hj : j < 11) {ns : List Int} (hl : ns.length ≠ (formAt j).offs.length) : readEv (formKA j) ns = none := by
  have key : ∀ k n : Nat, (k = 10 → n ≠ 3) → (k = 11 → n ≠ 4) → (k = 9 → n ≠ 2) → ((8 < k ∧ k < 12) ∨ n ≠ 1) → ∀ ns : List Int, ns.length = n → readEv k ns = none := by
    intro k n h1 h2 h3 h4 ns hn
    unfold readEv
    rw [if_neg (by omega), if_neg (by omega), if_neg (by omega), if_pos (by omega)]
  match j, hj with
  | 0, _ => exact key 10 ns.length (fun _ => hl) (by omega) (by omega) (by omega) ns rfl
  | 1, _ => exact key 11 ns.length (by omega) (fun _ => hl) (by omega) (by omega) ns rfl
  | 2, _ => exact key 2 ns.length (by omega) (by omega) (by omega) (.inr hl) ns rfl
  | 3, _ => exact key 3 ns.length (by omega) (by omega) (by omega) (.inr hl) ns rfl
  | 4, _ => exact key 4 ns.length (by omega) (by omega) (by omega) (.inr hl) ns rfl
  | 5, _ => exact key 12 ns.length (by omega) (by omega) (by omega) (.inr hl) ns rfl
  | 6, _ => exact key 5 ns.length (by omega) (by omega) (by omega) (.inr hl) ns rfl
  | 7, _ => exact key 6 ns.length (by omega) (by omega) (by omega) (.inr hl) ns rfl
  | 8, _ => exact key 7 ns.length (by omega) (by omega) (by omega) (.inr hl) ns rfl
  | 9, _ => exact key 8 ns.length (by omega) (by omega) (by omega) (.inr hl) ns rfl
  | 10, _ => exact key 9 ns.length (by omega) (by omega) (fun _ => hl) (by omega) ns rfl
theorem readB_len {s : List UInt8} {j : Nat} (hj : j < 11) (h : (formAt j).word = elt (splitB 32 s) 0) (hl : (splitB 32 s).length ≠ (formAt j).offs.length + 1) : readB s = none := by
  unfold readB
  simp only
  split
  · rw [headD_elt, place_form hj h]
    refine readEv_len hj ?_
    have := List.length_pos_iff.2 (splitB_ne 32 s)
    simp; omega
  · rfl
theorem readB_form {s : List UInt8} {j : Nat} (hj : j < 11) (h : (formAt j).word = elt (splitB 32 s) 0) (hl : (splitB 32 s).length = (formAt j).offs.length + 1) (hall : ∀ x ∈ (splitB 32 s).tail.map parseB, (0 : Int) ≤ x) :
    readB s = some (evOf (setTo j ((splitB 32 s).tail.map parseB))) := by
  rw [readB_good hall, place_form hj h]
  exact readEv_form hj (by simp; omega)
end Go.Proofs.YtkoebplikhlapaaGreatDoor
