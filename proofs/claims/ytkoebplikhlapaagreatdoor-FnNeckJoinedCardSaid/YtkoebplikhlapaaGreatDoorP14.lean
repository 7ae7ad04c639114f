/- Part 14: rules of the proofs, contracts of functions, plain facts. -/
import Derived.Test.YtkoebplikhlapaaGreatDoorP11
set_option linter.unusedVariables false
set_option linter.unusedSimpArgs false
namespace Go.Proofs.YtkoebplikhlapaaGreatDoor
open Go Go.RowKit
section
variable {P : Program} {c : Ctx} {I : Im} {H : List Own} {Γ : Env} {a : Act} {w : World} {E : TypeId} {sz : Nat} {l : List (List AV)} {Q : Exit → Act → World → Prop} {ops : Array Oper} {rest : List Oper}
theorem row_frozen {base : Nat → Prop} {v : Value} {k : Nat} (hm : Models w I) (hw : OwnsAll base I w H) (hk : H[k]? = some (Own.row v E sz l)) : ∃ I2, Im.le I I2 ∧ Models w I2 ∧ (AV.rows sz l).h I2 v := by
  have ho := hw.only hk
  have hs : St ⟨w, I, 0, fun _ => True⟩ I [Own.row v E sz l] [] { tmps := #[], defers := [] } w :=
    ⟨StepF.refl hm, ho.weaken fun b _ => .inr trivial, fun t x e => by simp [Env.get] at e, rfl, rfl⟩
  obtain ⟨I2, hs2, hv⟩ := hs.freezeRow 0 rfl
  exact ⟨I2, hs2.step.le, hs2.step.models, hv⟩
theorem agg_part {xs : List AV} {u v : Value} {y : AV} (q : Nat) (hq : xs[q]? = some (.val u)) (hy : y.h I u) (h : (AV.agg xs).h I v) : (AV.agg (xs.set q y)).h I v := by
  obtain ⟨cs, e, hl⟩ := h
  refine ⟨cs, e, ?_⟩
  obtain ⟨u', hu, hv, h1⟩ := hl.get hq
  obtain rfl : u' = u := hv
  refine (hl.set q hy h1).cast rfl ?_
  exact set_same hu
theorem ok_callB {g : Bool} {d : Option Tmp} {f : FuncId} {ys : Array Operand} {ts : Array TypeId} {ty : TypeId} {p : String} {af : Array Edge} {gd : Option (Nat × Bool)} {cs r : List AV} {res : AV} {v : Value} (k q : Nat)
    (h : ∀ I a, EnvOk I a Γ → g = true → HoldsA I (AV.agg cs :: r) (ys.map a.eval).toList) (hk : H[k]? = some (Own.row v E sz l)) (hq : cs[q]? = some (.val v)) (hf : Fn P f (AV.agg (cs.set q (AV.rows sz l)) :: r) res) (hflat : ∀ I J u, res.h I u → res.h J u) : Ok P H Γ g ⟨d, .call ⟨.value (.func f), ys, ts⟩, ty, p, af, gd⟩ res :=
  fun base I a w K Q he hm hw hg kk => by
    obtain ⟨I2, hle, hm2, hv⟩ := row_frozen hm hw hk
    have hx : ∀ I a, EnvOk I a Γ → (AV.rows sz l).h I v → HoldsA I (AV.agg (cs.set q (AV.rows sz l)) :: r) (ys.map a.eval).toList := fun I a he hv => by
      have := h I a he hg
      generalize (ys.map a.eval).toList = vs at this ⊢
      cases vs with
      | nil => exact this
      | cons u us => exact ⟨agg_part q hq hv this.1, this.2⟩
    have hc := hf.2 I2 w (ys.map a.eval) hm2 (hx I2 a (he.up hle) hv)
    unfold Oper.wp
    have hr : (execOp a.eval (⟨d, .call ⟨.value (.func f), ys, ts⟩, ty, p, af, gd⟩ : Oper)).run P w = .ok (.enter f (ys.map a.eval)) w := by
      simp only [execOp, resolve, Act.eval]
      simp [go_sem, hf.1 _ w]
    rw [hr, Oper.upon_enter]
    refine Calls.mono hc fun e w' he => ?_
    cases e with
    | returned u =>
      obtain ⟨I3, hs, hx⟩ := he
      refine kk u (fun b => if b < w.heap.size then I b else I3 b) w' (hflat _ _ _ hx) ⟨fun b cs e => ?_, fun b hb => if_pos hb, fun b cs e => ?_, hs.below⟩
      · show (if b < w.heap.size then I b else I3 b) = _
        rw [if_pos (hm.lt e)]; exact e
      · change (if b < w.heap.size then I b else I3 b) = some cs at e
        split at e
        · exact hs.models b cs (hs.le b cs (hle b cs e))
        · exact hs.models b cs e
    | panicked _ => exact he.elim
    | outgrown => exact he.elim
theorem ok_callB0 {g : Bool} {d : Option Tmp} {f : FuncId} {ys : Array Operand} {ts : Array TypeId} {ty : TypeId} {p : String} {af : Array Edge} {gd : Option (Nat × Bool)} {r : List AV} {res : AV} {v : Value} (k : Nat)
    (h : ∀ I a, EnvOk I a Γ → g = true → HoldsA I (AV.val v :: r) (ys.map a.eval).toList) (hk : H[k]? = some (Own.row v E sz l)) (hf : Fn P f (AV.rows sz l :: r) res) (hflat : ∀ I J u, res.h I u → res.h J u) : Ok P H Γ g ⟨d, .call ⟨.value (.func f), ys, ts⟩, ty, p, af, gd⟩ res :=
  fun base I a w K Q he hm hw hg kk => by
    obtain ⟨I2, hle, hm2, hv⟩ := row_frozen hm hw hk
    have hx : ∀ I a, EnvOk I a Γ → (AV.rows sz l).h I v → HoldsA I (AV.rows sz l :: r) (ys.map a.eval).toList := fun I a he hv => by
      have := h I a he hg
      generalize (ys.map a.eval).toList = vs at this ⊢
      cases vs with
      | nil => exact this
      | cons u us => exact ⟨by have e : u = v := this.1; rw [e]; exact hv, this.2⟩
    have hc := hf.2 I2 w (ys.map a.eval) hm2 (hx I2 a (he.up hle) hv)
    unfold Oper.wp
    have hr : (execOp a.eval (⟨d, .call ⟨.value (.func f), ys, ts⟩, ty, p, af, gd⟩ : Oper)).run P w = .ok (.enter f (ys.map a.eval)) w := by
      simp only [execOp, resolve, Act.eval]
      simp [go_sem, hf.1 _ w]
    rw [hr, Oper.upon_enter]
    refine Calls.mono hc fun e w' he => ?_
    cases e with
    | returned u =>
      obtain ⟨I3, hs, hx⟩ := he
      refine kk u (fun b => if b < w.heap.size then I b else I3 b) w' (hflat _ _ _ hx) ⟨fun b cs e => ?_, fun b hb => if_pos hb, fun b cs e => ?_, hs.below⟩
      · show (if b < w.heap.size then I b else I3 b) = _
        rw [if_pos (hm.lt e)]; exact e
      · change (if b < w.heap.size then I b else I3 b) = some cs at e
        split at e
        · exact hs.models b cs (hs.le b cs (hle b cs e))
        · exact hs.models b cs e
    | panicked _ => exact he.elim
    | outgrown => exact he.elim
theorem St.litO {T ty : TypeId} {d m n : Nat} {p : String} {af : Array Edge} {zv : Value} {ag : Bool} {len : Nat} {lxs : List (List AV)} {parts : List (Nat × Operand)} {ps : List (Nat × List AV)} (hs : St c I H Γ a w) (hd : Nat.blt d c.n = true) (hT : P.underlying T = some (.slice E)) (hE : Ty P E ag n m zv) (hzs : zv.cells.size = sz) (hz1 : ∀ u ∈ zv.cells.toList, u.oneCell' = true)
    (hsz : Nat.blt 0 sz = true) (hpos : Nat.blt 0 len = true) (hbig : Nat.ble (len * sz) 16777216 = true) (hp : Parts (slicePlace sz) Γ true (len * sz) parts ps) (hfl : filled (List.replicate (len * sz) AV.any) ps = lxs.flatten) (hlen : lxs.length = len) (hr : ∀ r ∈ lxs, r.length = sz) (hn : n = sz)
    (k : ∀ b I a' w', St c I (H ++ [Own.row (.slice (some ⟨b, 0, none⟩) len len) E sz lxs]) ((d, .val (.slice (some ⟨b, 0, none⟩) len len)) :: Γ) a' w' → wpList P ops Q rest a' w') :
    wpList P ops Q (⟨some d, .buildSlice T len parts.toArray, ty, p, af, none⟩ :: rest) a w := by
  subst hn
  have hbig' := Nat.le_of_ble_eq_true hbig
  have hp0 : 0 < len := by simpa using hpos
  obtain ⟨cs, e1, e2, e3⟩ := run_buildSlice (w := w) hs.env rfl hT hE hzs hz1 hbig' hp
  refine wpList_here rfl ?_
  unfold Oper.wp
  simp only [execOp, Sem.run_bind, e1, Result.andThen_ok, Sem.run_pure, Oper.upon_value]
  refine k w.heap.size I _ _ (hs.put0 (hs.step.trans (Step.alloc hs.step.models _)) (Im.le_refl _) (hs.own.push (x := Own.row (.slice (some ⟨w.heap.size, 0, none⟩) len len) E n lxs) hs.room (row_blk_some hp0) hs.step.models ⟨hr, .inr ⟨w.heap.size, len, cs, by rw [hlen], hp0, heap_alloc_get w _, by omega, ?_, e3, ?_⟩⟩) hd rfl)
  · simp only [maxLen]
    have h : 0 < n := by simpa using hsz
    have : len * 1 ≤ len * n := Nat.mul_le_mul_left _ h
    omega
  · rw [hfl] at e2
    refine e2.cast rfl ?_
    rw [List.take_of_length_le]
    have := e2.length
    simp [hlen] at e3 ⊢; omega
theorem holds_cons {y : Operand} {ys : List Operand} {x : AV} {xs : List AV} (h : x.h I (a.eval y)) (k : HoldsA I xs (ys.toArray.map a.eval).toList) : HoldsA I (x :: xs) ((y :: ys).toArray.map a.eval).toList := by
  simp only [List.map_toArray, List.map_cons] at k ⊢
  exact ⟨h, k⟩
theorem RunD.callM {Hf : List (Act → Own)} {os : List Oper} {ms : Meta} {d d' : Nat} {f : FuncId} {ys : Array Operand} {ts : Array TypeId} {ty : TypeId} {p : String} {af : Array Edge} {xs : Value → List AV} {res : AV} (k : Nat) (hk : Hf[k]? = some fun a => Own.row (a.tmps.getD d' undef) E sz l) (hd : Nat.blt d c.n = true) (hf : ∀ v, FnM P f (xs v) [Own.row v E sz l] [] res)
    (hargs : ∀ I a, EnvOk I a (Γ.only ((⟨some d, .call ⟨.value (.func f), ys, ts⟩, ty, p, af, none⟩ : Oper).looksAt ops)) → true = true → HoldsA I (xs (a.tmps.getD d' undef)) (ys.map a.eval).toList)
    (r : RunD P c ops Q ((d, res) :: Γ) (Hf.set k fun _ => Own.gone) os ms) : RunD P c ops Q Γ Hf (⟨some d, .call ⟨.value (.func f), ys, ts⟩, ty, p, af, none⟩ :: os) (([k], some (k, [])) :: ms) :=
  RunD.cons (u := some ⟨k, [], fun _ => Own.gone⟩) (x := res) (fun v e => by cases e; intro a a' _; rfl) (fun F W0 I0 I a w Q hs kk => by
    have hks : (mix [k] a F 0 Hf)[k]? = some (Own.row (a.tmps.getD d' undef) E sz l) := mix_at hk
    have hnd : [k].Nodup := by simp
    refine wpList_here rfl ?_
    unfold Oper.wp
    rw [run_callF (hf (a.tmps.getD d' undef)).1 rfl, Oper.upon_enter]
    have hown := (OwnsAll.pick (ks := [k]) (h0 := [Own.row (a.tmps.getD d' undef) E sz l]) hs.own (by simpa using mix_at hk) hnd).exact
    refine Calls.mono ((hf _).2 I w _ hs.step.models hown (hargs I a hs.env rfl)) fun e w' he => ?_
    cases e with
    | panicked _ => exact he.elim
    | outgrown => exact he.elim
    | returned v =>
      obtain ⟨x, I', hx, hst, ho, hv⟩ := he
      have h2 : St ⟨W0.1, I0, c.n, W0.2⟩ I' ((mix [k] a F 0 Hf).set k Own.gone) ((d, res) :: Γ.only ((⟨some d, .call ⟨.value (.func f), ys, ts⟩, ty, p, af, none⟩ : Oper).looksAt ops)) (a.put (some d) v) w' :=
        hs.calledE (h0 := [Own.row (a.tmps.getD d' undef) E sz l]) (h1 := fun _ : Unit => []) (res := fun _ => res) (x := ()) [k] (by simpa using hks) hnd hst ho hv hd
      exact kk I' _ w' (h2.pass (mix_set (f := fun _ => Own.gone) rfl))) r
theorem RunD.callP {Hf : List (Act → Own)} {os : List Oper} {ms : Meta} {d : Nat} {f : FuncId} {ys : Array Operand} {ts : Array TypeId} {ty : TypeId} {p : String} {af : Array Edge} {xs : List AV} {res : AV} {O O' : Own} (k : Nat) (hk : Hf[k]? = some fun _ => O) (hd : Nat.blt d c.n = true) (hf : FnM P f xs [O] [O'] res)
    (hargs : ∀ I a, EnvOk I a (Γ.only ((⟨some d, .call ⟨.value (.func f), ys, ts⟩, ty, p, af, none⟩ : Oper).looksAt ops)) → true = true → HoldsA I xs (ys.map a.eval).toList)
    (r : RunD P c ops Q ((d, res) :: Γ) (Hf.set k fun _ => O') os ms) : RunD P c ops Q Γ Hf (⟨some d, .call ⟨.value (.func f), ys, ts⟩, ty, p, af, none⟩ :: os) (([k], some (k, [])) :: ms) :=
  RunD.cons (u := some ⟨k, [], fun _ => O'⟩) (x := res) (fun v e => by cases e; intro a a' _; rfl) (fun F W0 I0 I a w Q hs kk => by
    have hks : (mix [k] a F 0 Hf)[k]? = some O := mix_at hk
    have hnd : [k].Nodup := by simp
    refine wpList_here rfl ?_
    unfold Oper.wp
    rw [run_callF hf.1 rfl, Oper.upon_enter]
    have hown := (OwnsAll.pick (ks := [k]) (h0 := [O]) hs.own (by simpa using mix_at hk) hnd).exact
    refine Calls.mono (hf.2 I w _ hs.step.models hown (hargs I a hs.env rfl)) fun e w' he => ?_
    cases e with
    | panicked _ => exact he.elim
    | outgrown => exact he.elim
    | returned v =>
      obtain ⟨x, I', hx, hst, ho, hv⟩ := he
      have h2 : St ⟨W0.1, I0, c.n, W0.2⟩ I' (((mix [k] a F 0 Hf).set k Own.gone).set k O' ++ []) ((d, res) :: Γ.only ((⟨some d, .call ⟨.value (.func f), ys, ts⟩, ty, p, af, none⟩ : Oper).looksAt ops)) (a.put (some d) v) w' :=
        hs.calledE (h0 := [O]) (h1 := fun _ : Unit => [O']) (res := fun _ => res) (x := ()) [k] (by simpa using hks) hnd hst ho hv hd
      rw [List.append_nil, List.set_set] at h2
      exact kk I' _ w' (h2.pass (mix_set (f := fun _ => O') rfl))) r
end
def xorN (m n : Int) : Int := ((m.toNat ^^^ n.toNat : Nat) : Int)
theorem xorN_pos {m n : Int} : 0 ≤ xorN m n := Int.natCast_nonneg _
theorem xorN_lt {m n : Int} (hm : m < 4611686018427387904) (hn : n < 4611686018427387904) : xorN m n < 4611686018427387904 := by
  have h := Nat.xor_lt_two_pow (x := m.toNat) (y := n.toNat) (n := 62) (by omega) (by omega)
  unfold xorN; omega
theorem ok_xor {P : Program} {H : List Own} {Γ : Env} {g : Bool} {d : Option Tmp} {y z : Operand} {ty T T' : TypeId} {p : String} {af : Array Edge} {gd : Option (Nat × Bool)} {m n : Int} (hy : At Γ g y (.int m)) (hz : At Γ g z (.int n)) (hb : g = true → 0 ≤ m ∧ m < 4611686018427387904 ∧ 0 ≤ n ∧ n < 4611686018427387904) :
    Ok P H Γ g ⟨d, .binOp .xor T y z T', ty, p, af, gd⟩ (.int (xorN m n)) :=
  ok_val fun I a w he hg => by
    have h1 : a.eval y = .int .i64 m := hy I a he hg
    have h2 : a.eval z = .int .i64 n := hz I a he hg
    obtain ⟨g1, g2, g3, g4⟩ := hb hg
    have hx := xorN_lt (m := m) (n := n) (by omega) (by omega)
    have hp := xorN_pos (m := m) (n := n)
    have h3 : IntKind.i64.wrap (xorN m n) = xorN m n := IntWalk.i64_in _ (by omega)
    have h4 : (((BitVec.ofInt IntKind.i64.bits m ^^^ BitVec.ofInt IntKind.i64.bits n).toNat : Nat) : Int) = xorN m n := by
      unfold xorN
      rw [BitVec.toNat_xor]
      have e1 : (BitVec.ofInt IntKind.i64.bits m).toNat = m.toNat := by
        rw [BitVec.toNat_ofInt]; show (m % (2 ^ 64 : Nat)).toNat = _; rw [Int.emod_eq_of_lt g1 (by simp; omega)]
      have e2 : (BitVec.ofInt IntKind.i64.bits n).toNat = n.toNat := by
        rw [BitVec.toNat_ofInt]; show (n % (2 ^ 64 : Nat)).toNat = _; rw [Int.emod_eq_of_lt g3 (by simp; omega)]
      rw [e1, e2]
    simp only [execOp, h1, h2]; simp [go_sem, eqGuard, binOp, Op.intBits]; exact (congrArg IntKind.i64.wrap h4).trans h3
def drawChk4 (l : List Oper) (o9 : Oper) (ms : Meta) : Bool :=
  drawChk3 (l ++ [o9]) (ms ++ [([], none)]) && (List.range l.length).all fun j => ((cloAcc [] (l ++ [o9])).getD l.length []).contains j
theorem app_get {α : Type} {x : List α} {y : α} {i : Nat} {v : α} (h : x[i]? = some v) : (x ++ [y])[i]? = some v := by
  rw [List.getElem?_append_left (List.getElem?_eq_some_iff.1 h).1]; exact h
section
variable {P : Program} {c : Ctx} {I : Im} {H : List Own} {Γ : Env} {a : Act} {w : World} {Q : Exit → Act → World → Prop}
theorem draw4_main {l : List Oper} {o9 : Oper} {rs : List Rec} {H0 : List Own} (hchk4 : drawChk4 l o9 (rs.map Rec.shapeD) = true) (hlen : l.length = rs.length) (hdn : (l.all fun o => match o.dst with | some d => Nat.blt d c.n | none => true) = true)
    (hfit : ∀ (i : Nat) (r : Rec) (u : Upd), rs[i]? = some r → r.u = some u → u.fit)
    (run : ∀ (i : Nat) (o : Oper) (r : Rec), l[i]? = some o → rs[i]? = some r → OpW P c.n (l ++ [o9]).toArray (hatL (fun j => decide (j < i)) 0 rs 0 (H0.map fun o _ => o)) (updAt (hatL (fun j => decide (j < i)) 0 rs 0 (H0.map fun o _ => o)) r.u) r.T ((envOf ((entsD 0 l rs).reverse.filter fun e => decide (e.1 < i)) ++ Γ).only (o.looksAt (l ++ [o9]).toArray)) o r.x)
    (k : ∀ I' a' w', St c I' (evL a' (hatL (fun _ => true) 0 rs 0 (H0.map fun o _ => o))) (envOf (entsD 0 l rs).reverse ++ Γ) a' w' → wpList P (l ++ [o9]).toArray Q [o9] a' w') :
    ∀ (fuel : Nat) (listed : Array Bool) (I : Im) (a : Act) (w : World), listed.size = (l ++ [o9]).length → ((List.range (l ++ [o9]).length).filter fun i => !listed.getD i false).length ≤ fuel →
      (∀ (i : Nat) (o : Oper), (l ++ [o9])[i]? = some o → listed.getD i false = true → ∀ e ∈ o.after.toList, Region.binds .any e = true → listed.getD e.on false = true) → listed.getD l.length false = false →
      St c I (evL a (hatL (fun i => listed.getD i false) 0 rs 0 (H0.map fun o _ => o))) (envOf ((entsD 0 l rs).reverse.filter fun e => listed.getD e.1 false) ++ Γ) a w → wpAny P .any (l ++ [o9]).toArray Q fuel listed a w := by
  have hchk : drawChk3 (l ++ [o9]) ((rs ++ [(⟨AV.any, [], none⟩ : Rec)]).map Rec.shapeD) = true := by
    simp only [drawChk4, Bool.and_eq_true] at hchk4
    rw [List.map_append]; exact hchk4.1
  have hlast : ∀ j, j < l.length → j ∈ (cloAcc [] (l ++ [o9])).getD l.length [] := fun j hj => by
    simp only [drawChk4, Bool.and_eq_true, List.all_eq_true] at hchk4
    have := hchk4.2 j (by simpa using hj)
    simpa using this
  have hLl : (l ++ [o9]).length = l.length + 1 := by simp
  have hL : (entsD 0 l rs).reverse.Pairwise (fun e f => f.1 < e.1) := by
    rw [List.pairwise_reverse]; exact (entsD_sorted 0 l rs).1
  have hent : ∀ e ∈ (entsD 0 l rs).reverse, ∃ o', l[e.1]? = some o' ∧ o'.dst = some e.2.1 := fun e he => by
    obtain ⟨j, o', r', g1, _, g3, g4, _⟩ := entsD_mem (List.mem_reverse.1 he)
    exact ⟨o', by rw [g3, Nat.zero_add]; exact g1, g4⟩
  have hdone : ∀ (listed : Array Bool) (I : Im) (a : Act) (w : World), (∀ i, i < l.length → listed.getD i false = true) →
      St c I (evL a (hatL (fun i => listed.getD i false) 0 rs 0 (H0.map fun o _ => o))) (envOf ((entsD 0 l rs).reverse.filter fun e => listed.getD e.1 false) ++ Γ) a w → wpList P (l ++ [o9]).toArray Q [o9] a w := fun listed I a w hall hs => by
    refine k I a w ?_
    have e1 : (entsD 0 l rs).reverse.filter (fun e => listed.getD e.1 false) = (entsD 0 l rs).reverse := by
      rw [List.filter_eq_self]
      intro e he
      obtain ⟨o', h1, _⟩ := hent e he
      exact hall e.1 (List.getElem?_eq_some_iff.1 h1).1
    have e2 : hatL (fun i => listed.getD i false) 0 rs 0 (H0.map fun o _ => o) = hatL (fun _ => true) 0 rs 0 (H0.map fun o _ => o) := by
      apply List.ext_getElem?
      intro j
      rw [hatL_get, hatL_get]
      cases (H0.map fun (o : Own) (_ : Act) => o)[j]? with
      | none => rfl
      | some f =>
        simp only [Option.map_some]
        rw [cellAt_congr (S := fun i => listed.getD i false) (S' := fun _ => true) 0 rs f fun j r u h1 _ _ => by
          rw [Nat.zero_add]; exact hall j (by rw [hlen]; exact (List.getElem?_eq_some_iff.1 h1).1)]
    rw [e1, e2] at hs
    exact hs
  intro fuel
  induction fuel with
  | zero =>
    intro listed I a w hsz hf hcl hnl hs
    have : (List.range (l ++ [o9]).length).filter (fun i => !listed.getD i false) = [] := List.eq_nil_of_length_eq_zero (by omega)
    rw [List.filter_eq_nil_iff] at this
    have := this l.length (by simp)
    rw [hnl] at this; simp at this
  | succ fuel ih =>
    intro listed I a w hsz hf hcl hnl hs
    refine ⟨fun hr => ?_, fun i hi => ?_⟩
    · exfalso
      have hall : ∀ i, i < (l ++ [o9]).length → listed.getD i false = true := fun i => by
       induction i using Nat.strongRecOn with
       | _ i ih2 =>
        intro hi
        cases hl : listed.getD i false with
        | true => rfl
        | false =>
          have hin : i ∈ Region.ready .any (l ++ [o9]).toArray listed := by
            refine mem_ready.2 ⟨by rw [getD_irr (by omega)]; exact hl, (l ++ [o9])[i], by simp [hi], fun e he hb => ?_⟩
            have hlt := chk3_edge hchk (i := i) (o := (l ++ [o9])[i]) (by simp [hi]) e (by simpa using he) hb
            exact ih2 e.on hlt (by omega)
          rw [hr] at hin; cases hin
      rw [hall l.length (by omega)] at hnl; cases hnl
    · obtain ⟨h1, o, h2, h3⟩ := mem_ready.1 hi
      have hlt : i < (l ++ [o9]).length := by have := (Array.getElem?_eq_some_iff.1 h2).1; simpa using this
      have hol9 : (l ++ [o9])[i]? = some o := by simpa using h2
      rw [getD_irr (by omega)] at h1
      have hlisted : ∀ j, (listed.setIfInBounds i true).getD j false = if j = i then true else listed.getD j false := fun j => getD_set (by omega) false
      have hclo := cloAcc_spec (S := fun j => listed.getD j false) (l ++ [o9]) [] (fun i k hk => by simp at hk) (fun i o ho hi e he hb => hcl i o ho (by simpa using hi) e he hb)
      have hcl' : ∀ (i' : Nat) (o' : Oper), (l ++ [o9])[i']? = some o' → (listed.setIfInBounds i true).getD i' false = true → ∀ e ∈ o'.after.toList, Region.binds .any e = true → (listed.setIfInBounds i true).getD e.on false = true := fun i' o' ho' hi2 e he hb => by
        rw [hlisted] at hi2 ⊢
        split
        · rfl
        · split at hi2
          · rename_i hii; subst hii
            rw [hol9] at ho'; cases ho'
            exact h3 e (by simpa using he) hb
          · exact hcl i' o' ho' hi2 e he hb
      have hclo' := cloAcc_spec (S := fun j => (listed.setIfInBounds i true).getD j false) (l ++ [o9]) [] (fun i k hk => by simp at hk) (fun i' o' ho' hi' e he hb => hcl' i' o' ho' (by simpa using hi') e he hb)
      have hafter : ∀ j, i ∈ (cloAcc [] (l ++ [o9])).getD j [] → listed.getD j false = false := fun j hj => by
        cases hb : listed.getD j false with
        | false => rfl
        | true => rw [hclo j i hj hb] at h1; cases h1
      have hb4 : ∀ j, j ≠ i → j ∈ (cloAcc [] (l ++ [o9])).getD i [] → listed.getD j false = true := fun j hji hj => by
        have h' := hclo' i j hj (by show (listed.setIfInBounds i true).getD i false = true; rw [hlisted]; simp)
        have h'' : (listed.setIfInBounds i true).getD j false = true := h'
        rwa [hlisted, if_neg hji] at h''
      by_cases hi9 : i = l.length
      · subst hi9
        obtain rfl : o = o9 := by rw [List.getElem?_append_right (Nat.le_refl _)] at hol9; simpa using hol9.symm
        have hall : ∀ j, j < l.length → listed.getD j false = true := fun j hj => hb4 j (by omega) (hlast j hj)
        have hw := hdone listed I a w hall hs
        have hend : ∀ a w, Q .normal a w → wpAny P .any (l ++ [o]).toArray Q fuel (listed.setIfInBounds l.length true) a w := fun a w h => by
          have hready : Region.ready .any (l ++ [o]).toArray (listed.setIfInBounds l.length true) = [] := by
            rw [List.eq_nil_iff_forall_not_mem]
            intro i hi
            obtain ⟨g1, o', g2, _⟩ := mem_ready.1 hi
            have hlt' : i < (l ++ [o]).length := by have := (Array.getElem?_eq_some_iff.1 g2).1; simpa using this
            have e : (listed.setIfInBounds l.length true).getD i true = (listed.setIfInBounds l.length true).getD i false := getD_irr (by simp; omega)
            rw [e, hlisted] at g1
            split at g1
            · cases g1
            · rw [hall i (by omega)] at g1; cases g1
          cases fuel with
          | zero => exact ⟨hready, h⟩
          | succ fuel => exact ⟨fun _ => h, fun i hi => by rw [hready] at hi; cases hi⟩
        unfold wpOp
        simp only [h2]
        unfold wpList at hw
        by_cases hwn : Region.wanted o (yielded (l ++ [o]).toArray a.tmps) = true
        · rw [if_pos hwn] at hw ⊢
          exact hw.imp (Oper.wp_mono fun a w h => hend a w h) id
        · rw [if_neg hwn] at hw ⊢
          exact hend _ _ hw
      have hil : i < l.length := by omega
      have hol : l[i]? = some o := by rw [List.getElem?_append_left hil] at hol9; exact hol9
      have hrl : i < rs.length := by omega
      have hrr : rs[i]? = some rs[i] := by simp [hrl]
      generalize rs[i] = r at hrr
      obtain ⟨hcell0, hkT⟩ := chk3_cell hchk (app_get hrr)
      have hcell : ∀ k ∈ r.T, ∀ j r' u, rs[j]? = some r' → i ≠ j → r'.u = some u → u.k = k → if j < i then j ∈ (cloAcc [] (l ++ [o9])).getD i [] else i ∈ (cloAcc [] (l ++ [o9])).getD j [] := fun k hk j r' u g => hcell0 k hk j r' u (app_get g)
      have hrun := run i o r hol hrr
      have hcongr : ∀ k ∈ r.T, ∀ f, cellAt (fun j => decide (j < i)) k 0 rs f = cellAt (fun j => listed.getD j false) k 0 rs f := fun k hk f => cellAt_congr 0 rs f fun j r' u g1 g2 g3 => by
        rw [Nat.zero_add]
        by_cases hij : i = j
        · subst hij; rw [h1]; simp
        · have := hcell k hk j r' u g1 hij g2 g3
          split at this
          · rename_i hlt'; rw [hb4 j (fun e => hij e.symm) this]; simpa using hlt'
          · rename_i hlt'; rw [hafter j this]; simpa using hlt'
      have hslots0 := chk3_slot hchk hol9
      have hslots : ∀ t ∈ slotsOf (l ++ [o9]).toArray o, ∀ j o', l[j]? = some o' → i ≠ j → o'.dst = some t → if j < i then j ∈ (cloAcc [] (l ++ [o9])).getD i [] else i ∈ (cloAcc [] (l ++ [o9])).getD j [] := fun t ht j o' g => hslots0 t ht j o' (app_get g)
      have henv : EnvOk I a ((envOf ((entsD 0 l rs).reverse.filter fun e => decide (e.1 < i)) ++ Γ).only (o.looksAt (l ++ [o9]).toArray)) := fun t y e => by
        obtain ⟨g1, g2⟩ := Env.get_only e
        have ht : t ∈ slotsOf (l ++ [o9]).toArray o := by
          unfold slotsOf; rw [List.mem_append]; exact .inr (by simpa using g2)
        rw [get_filter_congr (q := fun e => listed.getD e.1 false) _ (fun e he het => ?_)] at g1
        · exact hs.env t y g1
        · obtain ⟨o', k1, k2⟩ := hent e he
          by_cases hei : e.1 = i
          · rw [hei, h1]; simp
          · have := hslots t ht e.1 o' k1 (fun h => hei h.symm) (by rw [k2, het])
            split at this
            · rename_i hlt'; rw [hb4 e.1 hei this]; simpa using hlt'
            · rename_i hlt'; rw [hafter e.1 this]; simpa using hlt'
      have hcount : ((List.range (l ++ [o9]).length).filter fun j => !(listed.setIfInBounds i true).getD j false).length ≤ fuel := by
        have := filter_lt (l := List.range (l ++ [o9]).length) (p := fun j => !listed.getD j false) (q := fun j => !(listed.setIfInBounds i true).getD j false) (i := i) (by simpa using hlt) (by simp only [h1]; rfl) (by simp only [hlisted]; simp) (fun j hj => by
          simp only [hlisted] at hj; split at hj
          · cases hj
          · exact hj)
        omega
      let HS : List (Act → Own) := hatL (fun i => listed.getD i false) 0 rs 0 (H0.map fun o _ => o)
      let F : Nat → Own := fun k => match HS[k]? with | some f => f a | none => Own.gone
      have hmix : mix r.T a F 0 (hatL (fun j => decide (j < i)) 0 rs 0 (H0.map fun o _ => o)) = evL a HS := mix_eq (by simp [evL, HS, hatL_len]) fun j f x g1 g2 => by
        rw [hatL_get] at g1
        have g2' : (evL a HS)[j]? = some x := g2
        simp only [evL, List.getElem?_map] at g2'
        have g3 : HS[j]? = ((H0.map fun (o : Own) (_ : Act) => o)[j]?).map (cellAt (fun i => listed.getD i false) (0 + j) 0 rs) := hatL_get 0 _ j
        cases h0 : (H0.map fun (o : Own) (_ : Act) => o)[j]? with
        | none => rw [h0] at g1; simp at g1
        | some f0 =>
          rw [h0] at g1 g3
          simp only [Option.map_some, Option.some.injEq, Nat.zero_add] at g1 g3
          rw [g3] at g2'
          simp only [Option.map_some, Option.some.injEq] at g2'
          cases hT : r.T.contains j with
          | true =>
            simp only [cond_true]
            rw [← g1, ← g2', hcongr j (by simpa using hT)]
          | false =>
            simp only [cond_false, F, g3, ← g2']
      have hst0 : St ⟨c.W, I, c.n, c.F⟩ I (mix r.T a F 0 (hatL (fun j => decide (j < i)) 0 rs 0 (H0.map fun o _ => o))) ((envOf ((entsD 0 l rs).reverse.filter fun e => decide (e.1 < i)) ++ Γ).only (o.looksAt (l ++ [o9]).toArray)) a w := by
        rw [hmix]
        exact ⟨hs.rebaseI.step, hs.own, henv, hs.size, hs.defers⟩
      have hput : ∀ I' a' w', (∃ v, a'.tmps = (a.put o.dst v).tmps) → St ⟨c.W, I, c.n, c.F⟩ I' (mix r.T a' F 0 (updAt (hatL (fun j => decide (j < i)) 0 rs 0 (H0.map fun o _ => o)) r.u)) (pushE o.dst r.x ((envOf ((entsD 0 l rs).reverse.filter fun e => decide (e.1 < i)) ++ Γ).only (o.looksAt (l ++ [o9]).toArray))) a' w' →
          wpAny P .any (l ++ [o9]).toArray Q fuel (listed.setIfInBounds i true) a' w' := fun I' a' w' ⟨v, hv⟩ h' => by
        refine ih (listed.setIfInBounds i true) I' a' w' (by simpa using hsz) hcount hcl' (by rw [hlisted, if_neg (by omega)]; exact hnl) ?_
        have hoth : ∀ t, o.dst ≠ some t → a'.tmps.getD t undef = a.tmps.getD t undef := fun t ht => by
          rw [hv]
          cases hd : o.dst with
          | none => rfl
          | some d =>
            have hne : d ≠ t := fun e => ht (by rw [hd, e])
            simp [Act.put, hne]
        have hown : mix r.T a' F 0 (updAt (hatL (fun j => decide (j < i)) 0 rs 0 (H0.map fun o _ => o)) r.u) = evL a' (hatL (fun j => (listed.setIfInBounds i true).getD j false) 0 rs 0 (H0.map fun o _ => o)) := mix_eq (by cases r.u <;> simp [evL, hatL_len, updAt]) fun j f x g1 g2 => by
          simp only [evL, List.getElem?_map] at g2
          rw [hatL_get] at g2
          cases h0 : (H0.map fun (o : Own) (_ : Act) => o)[j]? with
          | none => rw [h0] at g2; simp at g2
          | some f0 =>
            rw [h0] at g2
            simp only [Option.map_some, Option.some.injEq, Nat.zero_add] at g2
            have hf0 : ∀ a a', f0 a = f0 a' := by
              rw [List.getElem?_map] at h0
              cases hh : H0[j]? with
              | none => rw [hh] at h0; simp at h0
              | some o0 => rw [hh] at h0; simp at h0; subst h0; intro _ _; rfl
            have hsame : ∀ (hnk : ∀ u, r.u = some u → u.k ≠ j), cellAt (fun j => (listed.setIfInBounds i true).getD j false) j 0 rs f0 = cellAt (fun j => listed.getD j false) j 0 rs f0 := fun hnk => cellAt_congr 0 rs f0 fun j' r' u g3 g4 g5 => by
              rw [Nat.zero_add, hlisted, if_neg]
              intro e; subst e
              rw [hrr] at g3; cases g3
              exact hnk u g4 g5
            cases hT : r.T.contains j with
            | true =>
              simp only [cond_true]
              rw [← g2]
              have hjT : j ∈ r.T := by simpa using hT
              cases hu : r.u with
              | none =>
                rw [hu] at g1
                simp only [updAt] at g1
                rw [hatL_get, h0] at g1
                simp only [Option.map_some, Option.some.injEq, Nat.zero_add] at g1
                rw [hsame (fun u e => by rw [hu] at e; cases e), ← hcongr j hjT, g1]
              | some u =>
                rw [hu] at g1
                simp only [updAt] at g1
                by_cases hk : u.k = j
                · subst hk
                  have hlt' : u.k < (hatL (fun j => decide (j < i)) 0 rs 0 (H0.map fun o _ => o)).length := by
                    rw [hatL_len]; exact (List.getElem?_eq_some_iff.1 h0).1
                  rw [List.getElem?_set_self hlt'] at g1
                  cases g1
                  rw [cellAt_last 0 rs f0 i r u hrr hu rfl (by rw [Nat.zero_add, hlisted]; simp) fun j' r' u' g3 g4 g5 g6 => ?_]
                  have := hcell u.k hjT j' r' u' g3 (by omega) g4 g5
                  rw [if_neg (by omega)] at this
                  rw [Nat.zero_add, hlisted, if_neg (by omega)]
                  exact hafter j' this
                · rw [List.getElem?_set_ne hk, hatL_get, h0] at g1
                  simp only [Option.map_some, Option.some.injEq, Nat.zero_add] at g1
                  rw [hsame (fun u' e => by rw [hu] at e; cases e; exact hk), ← hcongr j hjT, g1]
            | false =>
              simp only [cond_false]
              rw [← g2]
              have hnk : ∀ u, r.u = some u → u.k ≠ j := fun u hu e => by
                have := hkT u hu
                rw [e] at this
                have : r.T.contains j = true := by simpa using this
                rw [hT] at this; cases this
              rw [hsame hnk]
              have g3 : HS[j]? = some (cellAt (fun i => listed.getD i false) j 0 rs f0) := by
                have := hatL_get (S := fun i => listed.getD i false) (i := 0) (rs := rs) 0 (H0.map fun (o : Own) (_ : Act) => o) j
                rw [h0, Nat.zero_add] at this; exact this
              simp only [F, g3]
              refine (cellAt_dep 0 rs f0 (hf0 a' a) fun j' r' u' g4 g5 g6 => hfit j' r' u' g4 g5 a' a fun d hd => hoth d fun e => ?_)
              rw [Nat.zero_add] at g6
              by_cases hij : i = j'
              · subst hij; have g6' : listed.getD i false = true := g6; rw [h1] at g6'; cases g6'
              · have g6' : listed.getD j' false = true := g6
                rw [hafter j' (chk3_dep hchk hol9 e (app_get g4) g5 hij hd)] at g6'; cases g6'
        rw [hown] at h'
        have hstep : StepF c.F c.I c.W I' w' := ⟨Im.le_trans hs.step.le h'.step.le, fun b hb hf => (h'.step.old b hb hf).trans (hs.step.old b hb hf), h'.step.models, h'.step.below⟩
        refine ⟨hstep, h'.own, ?_, h'.size, h'.defers⟩
        intro t y e
        by_cases htd : o.dst = some t
        · have hmem : (i, t, r.x) ∈ (entsD 0 l rs).reverse := by
            rw [List.mem_reverse]
            have := mem_entsD htd (k := 0) hol hrr
            rwa [Nat.zero_add] at this
          rw [get_filter_top (i := i) (x := r.x) _ hL hmem (by simp only [hlisted]; simp) (fun e he hp het => ?_)] at e
          · cases e
            exact h'.env t r.x (by rw [htd]; simp [pushE, Env.get])
          · obtain ⟨o', k1, k2⟩ := hent e he
            by_cases hle : e.1 ≤ i
            · exact hle
            · have hne : i ≠ e.1 := by omega
              have := hslots t (by unfold slotsOf; rw [List.mem_append]; exact .inl (by simp [htd])) e.1 o' k1 hne (by rw [k2, het])
              rw [if_neg (by omega)] at this
              have hne2 : ¬ e.1 = i := fun h => hne h.symm
              rw [hlisted, if_neg hne2, hafter e.1 this] at hp; cases hp
        · rw [get_filter_congr (q := fun e => listed.getD e.1 false) _ (fun e he het => ?_)] at e
          · have := hs.env t y e
            rw [hoth t htd]
            exact y.up _ _ _ h'.step.le this
          · obtain ⟨o', k1, k2⟩ := hent e he
            have hne : e.1 ≠ i := fun h => by
              rw [h, hol] at k1; cases k1
              exact htd (by rw [k2, het])
            simp only [hlisted, if_neg hne]
      let Q' : Exit → Act → World → Prop := fun e a' w' => match e with
        | .normal => ∃ I', St ⟨c.W, I, c.n, c.F⟩ I' (mix r.T a' F 0 (updAt (hatL (fun j => decide (j < i)) 0 rs 0 (H0.map fun o _ => o)) r.u)) (pushE o.dst r.x ((envOf ((entsD 0 l rs).reverse.filter fun e => decide (e.1 < i)) ++ Γ).only (o.looksAt (l ++ [o9]).toArray))) a' w'
        | e => Q e a' w'
      have hQ : ∀ e a w, e ≠ .normal → Q' e a w → Q e a w := fun e a w hn h => by
        cases e <;> first | exact absurd rfl hn | exact h
      have hgo := hrun F (c.W, c.F) I I a w Q' hst0 fun I' a' w' h' => ⟨I', h'⟩
      unfold wpOp
      simp only [h2]
      unfold wpList at hgo
      by_cases hw : Region.wanted o (yielded (l ++ [o9]).toArray a.tmps) = true
      · rw [if_pos hw] at hgo ⊢
        rcases hgo with hgo | ⟨h5, h6⟩
        · exact .inl (Oper.wp_mono (fun a' w' h => h) (Oper.wp_mono (fun a' w' ⟨hv, I', h'⟩ => hput I' a' w' hv h') (wp_tmps hQ hgo)))
        · exact .inr ⟨h5, let ⟨a, w, h⟩ := h6; ⟨a, w, hQ _ a w (by simp) h⟩⟩
      · rw [if_neg hw] at hgo ⊢
        obtain ⟨I', h'⟩ := hgo
        exact hput I' _ w ⟨undef, rfl⟩ h'
def lastQ (P : Program) (ops : Array Oper) (Q : Exit → Act → World → Prop) (o9 : Oper) : Exit → Act → World → Prop
  | .normal => wpList P ops Q [o9]
  | e => Q e
theorem St.drawDT {id : Nat} {l : List Oper} {o9 : Oper} (ms : Meta) (hs : St c I H Γ a w) (hm : P.follows .mixedOrders = true) (hchk : drawChk4 l o9 ms = true) (hd : (l.all fun o => match o.dst with | some d => Nat.blt d c.n | none => true) = true)
    (run : RunD P c (l ++ [o9]).toArray (lastQ P (l ++ [o9]).toArray Q o9) Γ (H.map fun o _ => o) l ms) : (Code.region id (l ++ [o9]).toArray true).wp P Q a w := by
  obtain ⟨rs, h0, run, k⟩ := run
  subst h0
  refine wp_region_any hm ?_
  obtain ⟨hlen, hfit, hrun⟩ := RunOkD.at (Γ0 := Γ) l rs 0 _ [] (by simpa [envOf] using run) (fun e he => by simp at he)
  have hf : ∀ i : Nat, (Array.replicate (l ++ [o9]).length false).getD i false = false := fun i => by
    rw [Array.getD_eq_getD_getElem?, Array.getElem?_replicate]; split <;> rfl
  have := draw4_main (P := P) (c := c) (H0 := H) (Γ := Γ) (Q := Q) hchk hlen hd hfit (fun i o r ho hr => by simpa using hrun i o r ho hr) (fun I' a' w' h => by
      rw [← runEnvD_eq, ← runHD_eq] at h; exact k I' a' w' h) (l ++ [o9]).length (Array.replicate (l ++ [o9]).length false) I a { w with drawn := w.drawn + 1 } (by simp)
    (by simpa using List.length_filter_le _ (List.range (l ++ [o9]).length)) (fun i o ho hi => by rw [hf] at hi; cases hi) (hf _) (by
      have he : (entsD 0 l rs).reverse.filter (fun e => (Array.replicate (l ++ [o9]).length false).getD e.1 false) = [] := by
        rw [List.filter_eq_nil_iff]; intro e _; rw [hf]; simp
      have hh : evL a (hatL (fun i => (Array.replicate (l ++ [o9]).length false).getD i false) 0 rs 0 (H.map fun o _ => o)) = H := by
        rw [hatL_none fun j _ => hf j]; simp [evL, Function.comp_def]
      rw [he, hh]
      exact ⟨⟨hs.step.le, hs.step.old, hs.step.models, hs.step.below.drew⟩, ⟨fun o ho => ⟨o.keep I I w _ (Im.le_refl I) (fun _ _ => rfl) (hs.own.all o ho).1, (hs.own.all o ho).2⟩, hs.own.nodup⟩, hs.env, hs.size, hs.defers⟩)
  simpa using this
theorem St.drawE {id : Nat} {l : List Oper} (n : Nat) (o9 : Oper) (ms : Meta) (hs : St c I H Γ a w) (hl : l = l.take n ++ [o9]) (hm : P.follows .mixedOrders = true) (hchk : drawChk4 (l.take n) o9 ms = true) (hd : ((l.take n).all fun o => match o.dst with | some d => Nat.blt d c.n | none => true) = true)
    (run : RunD P c l.toArray (lastQ P l.toArray Q o9) Γ (H.map fun o _ => o) (l.take n) ms) : (Code.region id l.toArray true).wp P Q a w := by
  have := hs.drawDT (id := id) (Q := Q) (l := l.take n) (o9 := o9) ms hm hchk hd (by rw [← hl]; exact run)
  rwa [← hl] at this
theorem St.callPG {ops : Array Oper} {rest : List Oper} {d : Nat} {f : FuncId} {ys : Array Operand} {ts : Array TypeId} {ty : TypeId} {p : String} {af : Array Edge} {gd : Option (Nat × Bool)} {G : Bool} {xs : List AV} {res : AV} {O O' : Own} (k : Nat) (hs : St c I H Γ a w)
    (hg : Guarded ops Γ ⟨some d, .call ⟨.value (.func f), ys, ts⟩, ty, p, af, gd⟩ G) (hk : H[k]? = some O) (hd : Nat.blt d c.n = true) (hf : FnM P f xs [O] [O'] res) (hargs : ∀ I a, EnvOk I a Γ → G = true → HoldsA I xs (ys.map a.eval).toList)
    (kk : ∀ I' a' w', St c I' (H.set k (bif G then O' else O)) ((d, .cond G res) :: Γ) a' w' → wpList P ops Q rest a' w') : wpList P ops Q (⟨some d, .call ⟨.value (.func f), ys, ts⟩, ty, p, af, gd⟩ :: rest) a w := by
  unfold wpList
  rw [hg I a hs.env]
  cases G with
  | true =>
    rw [if_pos rfl]
    refine .inl ?_
    have hnd : [k].Nodup := by simp
    have hks : [k].map (fun k => H[k]?) = [O].map some := by simpa using hk
    unfold Oper.wp
    have hr : (execOp a.eval (⟨some d, .call ⟨.value (.func f), ys, ts⟩, ty, p, af, gd⟩ : Oper)).run P w = .ok (.enter f (ys.map a.eval)) w := by
      simp only [execOp, resolve, Act.eval]
      simp [go_sem, hf.1 _ w]
    rw [hr, Oper.upon_enter]
    have hown := (OwnsAll.pick hs.own hks hnd).exact
    refine Calls.mono (hf.2 I w _ hs.step.models hown (hargs I a hs.env rfl)) fun e w' he => ?_
    cases e with
    | panicked _ => exact he.elim
    | outgrown => exact he.elim
    | returned v =>
      obtain ⟨x, I', hx, hst, ho, hv⟩ := he
      have h2 : St c I' ((H.set k Own.gone).set k O' ++ []) ((d, res) :: Γ) (a.put (some d) v) w' :=
        hs.calledE (h0 := [O]) (h1 := fun _ : Unit => [O']) (res := fun _ => res) (x := ()) [k] hks hnd hst ho hv hd
      rw [List.append_nil, List.set_set] at h2
      refine kk I' _ w' ⟨h2.step, h2.own, fun t x e => ?_, h2.size, h2.defers⟩
      simp only [Env.get] at e
      cases hb : Nat.beq d t with
      | true =>
        rw [hb] at e; simp only [cond_true] at e; cases e
        have := h2.env t res (by simp [Env.get, hb])
        exact ⟨fun _ => this, fun h => by cases h⟩
      | false => rw [hb] at e; exact h2.env t x (by simp [Env.get, hb]; simpa using e)
  | false =>
    rw [if_neg (by simp)]
    refine kk I _ w ?_
    have h1 := hs.put (d := d) (x := .cond false res) (v := undef) (by simpa using hd) ⟨fun h => (by cases h), fun _ => rfl⟩ (Step.refl hs.step.models)
    refine h1.pass ?_
    show H = H.set k O
    exact (set_same hk).symm
theorem wpList_true {ops : Array Oper} {rest : List Oper} {o : Oper} (hs : St c I H Γ a w) (hg : Guarded ops Γ o true) (h : wpList P ops Q ({ o with guard := none } :: rest) a w) : wpList P ops Q (o :: rest) a w := by
  unfold wpList at h ⊢
  rw [hg I a hs.env, if_pos rfl]
  rw [if_pos (by simp [Region.wanted])] at h
  exact h
end
end Go.Proofs.YtkoebplikhlapaaGreatDoor
