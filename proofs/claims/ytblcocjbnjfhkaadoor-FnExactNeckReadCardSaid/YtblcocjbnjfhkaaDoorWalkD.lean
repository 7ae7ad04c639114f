/- Walks: events marked; the law FnExactNeckRead. -/
import Derived.Test.YtblcocjbnjfhkaaDoorWalkC
import Derived.Test.YtblcocjbnjfhkaaDoorWrite
set_option linter.unusedVariables false
set_option linter.unusedSimpArgs false
set_option maxRecDepth 100000
namespace Go.Proofs.YtblcocjbnjfhkaaDoor
open Go Go.RowKit


def RetM (I0 : Im) (W0 : World) (h1 : List Own) (res : AV) : Ending → World → Prop
  | .returned v, w' => ∃ I', Step I0 W0 I' w' ∧ OwnsAll W0.heap.size I' w' h1 ∧ res.h I' v
  | _, _ => False
/-- The contract of a function that writes what its caller owns. -/
def FnM (P : Program) (f : FuncId) (args : List AV) (h0 h1 : List Own) (res : AV) : Prop :=
  Enters P f ∧ ∀ (W0 : World) (I0 I : Im) (w : World) (vs : Array Value), Step I0 W0 I w → OwnsAll W0.heap.size I w h0 → HoldsA I args vs.toList → Calls P f vs w (RetM I0 W0 h1 res)
theorem FnM.intro {P : Program} {f : FuncId} {fn : Func} {code : Code} {args : List AV} {h0 h1 : List Own} {res : AV} (N : Nat) (hf : P.funcs[f]? = some fn) (hb : fn.body = some code) (hn : fn.ntmps = N) (hN : Nat.ble args.length N = true) (hname : (fn.name == "runtime.NumGoroutine") = false)
    (h : ∀ (W0 : World) (I0 I : Im) (a : Act) (w : World), St ⟨W0, I0, N⟩ I h0 (argsEnv 0 args) a w → code.wp P (bodyPost P fn (RetM I0 W0 h1 res)) a w) : FnM P f args h0 h1 res :=
  ⟨Enters.of hf hb hname, fun W0 I0 I w vs hst ho ha => calls_intro N hf hb hn hN hst ho ha fun a => h W0 I0 I a w⟩
section
variable {P : Program} {c : Ctx} {I : Im} {H : List Own} {Γ : Env} {a : Act} {w : World} {Q : Exit → Act → World → Prop} {ops : Array Oper} {rest : List Oper} {d : Nat} {y z : Operand} {ty T E : TypeId} {p : String} {af : Array Edge} {m : Nat} {zv : Value} {ys : Array Operand} {ts : Array TypeId}
theorem St.retM {fn : Func} {rs : List ResultVar} {xs : List AV} {res : AV} {h1 : List Own} (hs : St c I H Γ a w) (hr : fn.results = rs.toArray) (h : ResL P H Γ rs xs) (hH : H = h1) (e : resAV xs = res) : bodyPost P fn (RetM c.I c.W h1 res) .ret a w := by
  subst e hH
  obtain ⟨v, e1, e2⟩ := hs.retRun hr h
  exact ⟨hs.defers, v, e1, I, hs.step, hs.own, e2⟩
theorem St.storeRm {b cap q sz i j N : Nat} {base : List (List AV)} {r : List AV} {x : AV} (k : Nat) (hs : St c I H Γ a w) (hT : Ty P T false 1 m zv) (hy : At Γ true y (.val (.pointer (some ⟨b, q, none⟩)))) (hz : At Γ true z x) (hx : x.One)
    (hk : H[k]? = some (Own.row (.slice (some ⟨b, 0, none⟩) N cap) E sz (base.set i r))) (hN : base.length = N ∧ i < N) (hq : q = i * sz + j) (hj : Nat.ble (j + 1) r.length = true)
    (kk : ∀ a' w', St c I (H.set k (Own.row (.slice (some ⟨b, 0, none⟩) N cap) E sz (base.set i (r.set j x)))) Γ a' w' → wpList P ops Q rest a' w') :
    wpList P ops Q (⟨none, .store T y z, ty, p, af, none⟩ :: rest) a w := by
  obtain ⟨hN, hi⟩ := hN
  have hl : (base.set i r).length = N := by rw [List.length_set, hN]
  have hr : (base.set i r)[i]? = some r := by rw [List.getElem?_set_self (by omega)]
  have hsz : r.length = sz := ((hs.own.all _ (List.mem_of_getElem? hk)).1.1) r (List.mem_of_getElem? hr)
  have hv := hz I a hs.env rfl
  have hc := cells_one (hx _ _ hv)
  have hj := Nat.le_of_ble_eq_true hj
  rw [← hl] at hk
  obtain ⟨w', hrun, hs'⟩ := hs.storeRow (q := q) (lx := [x]) (v := a.eval z) k hT hk (by rw [hc]; exact ⟨⟨hv, hx _ _ hv⟩, trivial⟩) rfl hr hq (by omega)
  rw [hl, List.set_set, seg_one (by omega)] at hs'
  exact wpList_here rfl (store_upon (hy I a hs.env rfl) rfl hrun (kk _ _ hs'))
theorem run_callF {f : FuncId} {o : Oper} (hen : Enters P f) (ho : o = ⟨some d, .call ⟨.value (.func f), ys, ts⟩, ty, p, af, none⟩) : (execOp a.eval o).run P w = .ok (.enter f (ys.map a.eval)) w := by
  subst ho
  simp only [execOp, resolve, Act.eval]
  simp [Deferred.ofValue, invoke, hen _ w, Sem.run_bind, Sem.run_pure]
theorem memI_le (hm : Models w I) : Im.le I (memI w) := fun b cs e => by
  obtain ⟨T, fr, h⟩ := hm b cs e
  exact memI_at h
/-- A call that only reads, also what is owned: nothing of what is known is lost. -/
theorem St.callR {f : FuncId} {xs : List AV} {res : AV} (hs : St c I H Γ a w) (hd : Nat.blt d c.n = true) (hf : Fn P f xs res) (hflat : ∀ I J v, res.h I v → res.h J v) (hargs : HoldsA (memI w) xs (ys.map a.eval).toList)
    (k : ∀ a' w', St c I H ((d, res) :: Γ) a' w' → wpList P ops Q rest a' w') : wpList P ops Q (⟨some d, .call ⟨.value (.func f), ys, ts⟩, ty, p, af, none⟩ :: rest) a w := by
  refine wpList_here rfl ?_
  unfold Oper.wp
  rw [run_callF hf.1 rfl, Oper.upon_enter]
  refine Calls.mono (hf.2 (memI w) w _ (memI_models w) hargs) fun e w' he => ?_
  cases e with
  | panicked _ => exact he.elim
  | outgrown => exact he.elim
  | returned v =>
    obtain ⟨I', hst, hv⟩ := he
    exact k _ w' (hs.put (by simpa using hd) (hflat _ _ _ hv) (Step.of_below hs.step.models hst.below))
theorem row_mem {v : Value} {sz : Nat} {l : List (List AV)} (h : (Own.row v E sz l).ok I w) (hm : Models w I) : (AV.rows sz l).h (memI w) v := by
  obtain ⟨hr, ⟨rfl, hb⟩ | ⟨b, cap, cur, rfl, h0, h1, h2, h3, h4, h5⟩⟩ := h
  · rcases hb with rfl | ⟨q, rfl, hq⟩
    · exact rows_nil _ _
    · exact ⟨some q, 0, rfl, Nat.le_refl _, Nat.zero_le _, hr, .inl rfl, (fun h => by cases h), (fun q' e => by cases e; exact hq)⟩
  · refine ⟨some ⟨b, 0, none⟩, cap, rfl, h2, h3, hr, .inr ⟨⟨b, 0, none⟩, rfl, rfl, cur, memI_at h1, ?_⟩, (fun h => by cases h), (fun q' e => by cases e; rfl)⟩
    rw [List.drop_zero, flatten_length hr]
    exact h5.up (memI_le hm)
theorem St.argRow {v : Value} {sz t : Nat} {l : List (List AV)} (k : Nat) (hs : St c I H Γ a w) (ht : Env.get t Γ = some (.val v)) (hk : H[k]? = some (Own.row v E sz l)) : (AV.rows sz l).h (memI w) (a.eval (.tmp t)) := by
  have e : a.tmps.getD t undef = v := hs.env t _ ht
  show (AV.rows sz l).h (memI w) (a.tmps.getD t undef)
  rw [e]
  exact row_mem (hs.own.all _ (List.mem_of_getElem? hk)).1 hs.step.models
theorem St.argAt {o : Operand} {x : AV} (hs : St c I H Γ a w) (h : At Γ true o x) : x.h (memI w) (a.eval o) := x.up _ _ _ (memI_le hs.step.models) (h I a hs.env rfl)
/-- A call that hands back events in memory of its own. -/
theorem St.callRead {f : FuncId} {xs : List AV} {l : List Ev} {n : Int} (hs : St c I H Γ a w) (hd : Nat.blt d c.n = true) (hf : FnRead f xs l n) (hargs : ∀ I a, EnvOk I a Γ → true = true → HoldsA I xs (ys.map a.eval).toList)
    (k : ∀ I' sv a' w', St c I' (H ++ [Own.row sv 35 11 (l.map Ev.cells)]) ((d, .tup [.val sv, .int n]) :: Γ) a' w' → wpList Tryd.prog ops Q rest a' w') : wpList Tryd.prog ops Q (⟨some d, .call ⟨.value (.func f), ys, ts⟩, ty, p, af, none⟩ :: rest) a w := by
  refine wpList_here rfl ?_
  unfold Oper.wp
  rw [run_callF hf.1 rfl, Oper.upon_enter]
  refine Calls.mono (hf.2 I w _ hs.step.models (hargs I a hs.env rfl)) fun e w' he => ?_
  cases e with
  | panicked _ => exact he.elim
  | outgrown => exact he.elim
  | returned v =>
    obtain ⟨I', sv, hst, rfl, ho⟩ := he
    have hput := hs.put (d := d) (x := .tup [.val sv, .int n]) (v := .tuple #[sv, .int .i64 n]) (by simpa using hd) ⟨_, rfl, rfl, rfl, trivial⟩ hst
    refine k I' sv _ w' ⟨hput.step, ⟨fun o hm => ?_, ?_⟩, hput.env, hput.size, hput.defers⟩
    · rcases List.mem_append.1 hm with hm | hm
      · exact hput.own.all o hm
      · obtain rfl := List.mem_singleton.1 hm
        obtain ⟨h1, h2⟩ := ho.all _ (List.mem_singleton.2 rfl)
        exact ⟨h1, fun b e => ⟨Nat.le_trans hs.step.below.size (h2 b e).1, (h2 b e).2⟩⟩
    · rw [List.filterMap_append, List.nodup_append]
      refine ⟨hput.own.nodup, ho.nodup, fun b hb b' hb' => ?_⟩
      obtain ⟨y, hy, e⟩ := List.mem_filterMap.1 hb
      obtain ⟨y', hy', e'⟩ := List.mem_filterMap.1 hb'
      obtain rfl := List.mem_singleton.1 hy'
      have h3 := ((hs.own.all y hy).2 b e).2.2
      have h4 := ((ho.all _ (List.mem_singleton.2 rfl)).2 b' e').1
      omega
/-- A call that writes what is owned. -/
theorem St.callM {f : FuncId} {xs : List AV} {h1 : List Own} {res : AV} {Γ' : Env} (hs : St c I H Γ a w) (hd : Nat.blt d c.n = true) (hf : FnM P f xs H h1 res) (hargs : ∀ I a, EnvOk I a Γ → true = true → HoldsA I xs (ys.map a.eval).toList) (hle : Env.le Γ' Γ) (hr : ∀ p ∈ Γ', Rigid c.I p.2)
    (k : ∀ I' a' w', St c I' h1 ((d, res) :: Γ') a' w' → wpList P ops Q rest a' w') : wpList P ops Q (⟨some d, .call ⟨.value (.func f), ys, ts⟩, ty, p, af, none⟩ :: rest) a w := by
  refine wpList_here rfl ?_
  unfold Oper.wp
  rw [run_callF hf.1 rfl, Oper.upon_enter]
  refine Calls.mono (hf.2 c.W c.I I w _ hs.step hs.own (hargs I a hs.env rfl)) fun e w' he => ?_
  cases e with
  | panicked _ => exact he.elim
  | outgrown => exact he.elim
  | returned v =>
    obtain ⟨I', hst, ho, hv⟩ := he
    refine k I' _ w' ⟨hst, ho, ?_, by simp [Act.put, hs.size], hs.defers⟩
    exact (((hs.le hle).env.down hr).up hst.le).put (by rw [hs.size]; simpa using hd) hv
theorem St.rebase (hs : St c I [] Γ a w) : St ⟨w, I, c.n⟩ I [] Γ a w := ⟨Step.refl hs.step.models, OwnsAll.nil _ _ _, hs.env, hs.size, hs.defers⟩
theorem rebased {fn : Func} {W W' : World} {J J' : Im} {res : AV} (h0 : Step J W J' W') (h : bodyPost P fn (Ret J' W' res) .ret a w) : bodyPost P fn (Ret J W res) .ret a w := by
  obtain ⟨h1, v, h2, I', h3, h4⟩ := h
  exact ⟨h1, v, h2, I', h0.trans h3, h4⟩
end
/-- Marked so far. -/
def markTo (l : List Ev) (k : Nat) : List (List AV) := (marks k).map Ev.cells ++ (l.drop k).map Ev.cells
theorem markTo_len {l : List Ev} {k : Nat} (h : k ≤ l.length) : (markTo l k).length = l.length := by simp [markTo, marks_len]; omega
theorem markTo_get {l : List Ev} {k : Nat} (h : k < l.length) : (markTo l k)[k]? = some (elt l k).cells := by
  unfold markTo
  rw [List.getElem?_append_right (by simp [marks_len])]
  simp [marks_len, elt, h]
theorem markTo_set {l : List Ev} {k : Nat} (h : k < l.length) : (markTo l k).set k (markEv (1 + 11 * (k : Int))).cells = markTo l (k + 1) := by
  unfold markTo
  rw [List.set_append_right _ _ (by simp [marks_len])]
  simp only [List.length_map, marks_len, Nat.sub_self]
  rw [drop_elt h, List.map_cons, List.set_cons_zero, marks, marks, List.range_succ, List.map_append, List.map_append]
  simp
theorem markTo_all {l : List Ev} {k : Nat} (h : l.length ≤ k) (h2 : k ≤ l.length) : markTo l k = (marks l.length).map Ev.cells := by
  unfold markTo; rw [List.drop_eq_nil_of_le h, show k = l.length from by omega]; simp
theorem markTo_zero (l : List Ev) : markTo l 0 = l.map Ev.cells := by simp [markTo, marks]

set_option maxHeartbeats 4000000 in
theorem c_laws_markNeckEventS (sv : Value) (l : List Ev) (hl : l.length ≤ 1048577) :
    FnM Tryd.prog 12 [AV.val sv, AV.int 1] [Own.row sv 35 11 (l.map Ev.cells)] [Own.row sv 35 11 ((marks l.length).map Ev.cells)] (AV.int (1 + 11 * l.length)) := by
  refine FnM.intro 90 Tryd.func12 rfl Tryd.ntmps12 rfl (by kernel_rfl) (fun W0 I0 I a w hs => ?_)
  rw [← markTo_zero] at hs
  refine wp_seq ?_
  refine St.region ?_
  refine hs.op rfl rfl rfl (ok_assign .c) fun I a w hs => ?_
  refine wpList_nil ?_
  refine then_n ?_
  refine wp_seq ?_
  refine wp_seq ?_
  refine St.region ?_
  refine hs.op rfl rfl rfl (ok_assign .c) fun I a w hs => ?_
  refine wpList_nil ?_
  refine then_n ?_
  refine wp_block ?_
  refine St.loopS (σ := Nat) (1 :: 5 :: 6 :: 7 :: 8 :: 9 :: 10 :: 11 :: 12 :: 13 :: 14 :: 15 :: 16 :: 17 :: 18 :: 19 :: 20 :: 21 :: 22 :: 23 :: 24 :: 25 :: 26 :: 27 :: 28 :: 29 :: 30 :: 31 :: 32 :: 33 :: 34 :: 35 :: 36 :: 37 :: 38 :: 39 :: 40 :: 41 :: 42 :: 43 :: 44 :: 45 :: 46 :: 47 :: 48 :: 49 :: 50 :: 51 :: 52 :: 53 :: 54 :: 55 :: 56 :: 57 :: 58 :: 59 :: 60 :: 61 :: 62 :: 63 :: 64 :: 65 :: 66 :: 67 :: 68 :: 69 :: 70 :: 71 :: 72 :: 73 :: 74 :: 75 :: 76 :: 77 :: 78 :: 79 :: 80 :: 81 :: 82 :: 83 :: 84 :: 85 :: 86 :: 87 :: 88 :: []) ⟨fun k => [(5, AV.int k), (1, AV.int (1 + 11 * (k : Int)))], fun k => [Own.row sv 35 11 (markTo l k)], fun k => k ≤ l.length⟩ (fun k => l.length - k) 0 hs rfl ?ok1 ?env1 ?round1
  case ok1 => exact Nat.zero_le _
  case env1 => exact (Env.le_consE rfl (by rfl) (Env.le_consE rfl (by rfl) Env.le_nil))
  case round1 =>
    rintro k I a w hok hs
    have hk : k ≤ l.length := hok
    change St _ _ [Own.row sv 35 11 (markTo l k)] _ _ _ at hs
    refine wp_seq ?_
    refine wp_seq ?_
    refine St.region ?_
    refine hs.op rfl rfl rfl (ok_move (.t rfl)) fun I a w hs => ?_
    refine hs.op rfl rfl rfl (ok_move (.t rfl)) fun I a w hs => ?_
    refine hs.op rfl rfl rfl (ok_lenO 0 un25 (.t rfl) rfl) fun I a w hs => ?_
    refine hs.op rfl rfl rfl (ok_lss (.t rfl) (.t rfl)) fun I a w hs => ?_
    refine wpList_nil ?_
    refine then_n ?_
    refine hs.cond (.t rfl) (fun hb1 => ?_) (fun hb1 => ?_)
    · try simp only [decide_eq_true_eq, decide_eq_false_iff_not, Bool.not_eq_true', Bool.not_eq_false', Bool.and_eq_true, Bool.or_eq_true, Bool.and_eq_false_iff, Bool.or_eq_false_iff, beq_iff_eq, bne_iff_ne, bne_eq_false_iff_eq, beq_eq_false_iff_ne, ne_eq, Int.not_lt, Int.not_le, Int.ofNat_lt, Int.ofNat_le] at hb1
      rw [markTo_len hk] at hb1
      obtain ⟨bb, cap, hsv⟩ := hs.shape 0 rfl (by rw [markTo_len hk]; omega)
      rw [markTo_len hk] at hsv
      subst hsv
      rw [← set_same (markTo_get hb1)] at hs
      refine wp_skip ?_
      refine then_n ?_
      refine wp_seq ?_
      refine wp_block ?_
      refine wp_seq ?_
      refine St.region ?_
      refine hs.op rfl rfl rfl (ok_move (.t rfl)) fun I a w hs => ?_
      refine hs.op rfl rfl rfl (ok_move (.t rfl)) fun I a w hs => ?_
      refine hs.op rfl rfl rfl (ok_move (.t rfl)) fun I a w hs => ?_
      refine hs.op rfl rfl rfl (ok_idxO un25 ty35 (.t rfl) (.t rfl) (fun _ => by omega)) fun I a w hs => ?_
      refine hs.op rfl rfl rfl (ok_fieldV fd35_0 rfl (.t rfl)) fun I a w hs => ?_
      refine hs.storeRm (j := 0) 0 ty3 (.t rfl) (.t rfl) (by first | exact one_val rfl | exact one_rows | exact one_ptr | exact one_fn) rfl ⟨markTo_len hk, hb1⟩ rfl rfl fun a w hs => ?_
      refine wpList_nil ?_
      refine then_n ?_
      refine wp_seq ?_
      refine St.region ?_
      refine hs.op rfl rfl rfl (ok_move (.t rfl)) fun I a w hs => ?_
      refine hs.op rfl rfl rfl (ok_add (.t rfl) .c (fun _ => by omega)) fun I a w hs => ?_
      refine hs.op rfl rfl rfl (ok_assign (.t rfl)) fun I a w hs => ?_
      refine wpList_nil ?_
      refine then_n ?_
      refine wp_seq ?_
      refine St.region ?_
      refine hs.op rfl rfl rfl (ok_move (.t rfl)) fun I a w hs => ?_
      refine hs.op rfl rfl rfl (ok_move (.t rfl)) fun I a w hs => ?_
      refine hs.op rfl rfl rfl (ok_move (.t rfl)) fun I a w hs => ?_
      refine hs.op rfl rfl rfl (ok_idxO un25 ty35 (.t rfl) (.t rfl) (fun _ => by omega)) fun I a w hs => ?_
      refine hs.op rfl rfl rfl (ok_fieldV fd35_1 rfl (.t rfl)) fun I a w hs => ?_
      refine hs.storeRm (j := 1) 0 ty3 (.t rfl) (.t rfl) (by first | exact one_val rfl | exact one_rows | exact one_ptr | exact one_fn) rfl ⟨markTo_len hk, hb1⟩ rfl rfl fun a w hs => ?_
      refine wpList_nil ?_
      refine then_n ?_
      refine wp_seq ?_
      refine St.region ?_
      refine hs.op rfl rfl rfl (ok_move (.t rfl)) fun I a w hs => ?_
      refine hs.op rfl rfl rfl (ok_add (.t rfl) .c (fun _ => by omega)) fun I a w hs => ?_
      refine hs.op rfl rfl rfl (ok_assign (.t rfl)) fun I a w hs => ?_
      refine wpList_nil ?_
      refine then_n ?_
      refine wp_seq ?_
      refine St.region ?_
      refine hs.op rfl rfl rfl (ok_move (.t rfl)) fun I a w hs => ?_
      refine hs.op rfl rfl rfl (ok_move (.t rfl)) fun I a w hs => ?_
      refine hs.op rfl rfl rfl (ok_move (.t rfl)) fun I a w hs => ?_
      refine hs.op rfl rfl rfl (ok_idxO un25 ty35 (.t rfl) (.t rfl) (fun _ => by omega)) fun I a w hs => ?_
      refine hs.op rfl rfl rfl (ok_fieldV fd35_2 rfl (.t rfl)) fun I a w hs => ?_
      refine hs.storeRm (j := 2) 0 ty3 (.t rfl) (.t rfl) (by first | exact one_val rfl | exact one_rows | exact one_ptr | exact one_fn) rfl ⟨markTo_len hk, hb1⟩ rfl rfl fun a w hs => ?_
      refine wpList_nil ?_
      refine then_n ?_
      refine wp_seq ?_
      refine St.region ?_
      refine hs.op rfl rfl rfl (ok_move (.t rfl)) fun I a w hs => ?_
      refine hs.op rfl rfl rfl (ok_add (.t rfl) .c (fun _ => by omega)) fun I a w hs => ?_
      refine hs.op rfl rfl rfl (ok_assign (.t rfl)) fun I a w hs => ?_
      refine wpList_nil ?_
      refine then_n ?_
      refine wp_seq ?_
      refine St.region ?_
      refine hs.op rfl rfl rfl (ok_move (.t rfl)) fun I a w hs => ?_
      refine hs.op rfl rfl rfl (ok_move (.t rfl)) fun I a w hs => ?_
      refine hs.op rfl rfl rfl (ok_move (.t rfl)) fun I a w hs => ?_
      refine hs.op rfl rfl rfl (ok_idxO un25 ty35 (.t rfl) (.t rfl) (fun _ => by omega)) fun I a w hs => ?_
      refine hs.op rfl rfl rfl (ok_fieldV fd35_3 rfl (.t rfl)) fun I a w hs => ?_
      refine hs.storeRm (j := 3) 0 ty3 (.t rfl) (.t rfl) (by first | exact one_val rfl | exact one_rows | exact one_ptr | exact one_fn) rfl ⟨markTo_len hk, hb1⟩ rfl rfl fun a w hs => ?_
      refine wpList_nil ?_
      refine then_n ?_
      refine wp_seq ?_
      refine St.region ?_
      refine hs.op rfl rfl rfl (ok_move (.t rfl)) fun I a w hs => ?_
      refine hs.op rfl rfl rfl (ok_add (.t rfl) .c (fun _ => by omega)) fun I a w hs => ?_
      refine hs.op rfl rfl rfl (ok_assign (.t rfl)) fun I a w hs => ?_
      refine wpList_nil ?_
      refine then_n ?_
      refine wp_seq ?_
      refine St.region ?_
      refine hs.op rfl rfl rfl (ok_move (.t rfl)) fun I a w hs => ?_
      refine hs.op rfl rfl rfl (ok_move (.t rfl)) fun I a w hs => ?_
      refine hs.op rfl rfl rfl (ok_move (.t rfl)) fun I a w hs => ?_
      refine hs.op rfl rfl rfl (ok_idxO un25 ty35 (.t rfl) (.t rfl) (fun _ => by omega)) fun I a w hs => ?_
      refine hs.op rfl rfl rfl (ok_fieldV fd35_4 rfl (.t rfl)) fun I a w hs => ?_
      refine hs.storeRm (j := 4) 0 ty3 (.t rfl) (.t rfl) (by first | exact one_val rfl | exact one_rows | exact one_ptr | exact one_fn) rfl ⟨markTo_len hk, hb1⟩ rfl rfl fun a w hs => ?_
      refine wpList_nil ?_
      refine then_n ?_
      refine wp_seq ?_
      refine St.region ?_
      refine hs.op rfl rfl rfl (ok_move (.t rfl)) fun I a w hs => ?_
      refine hs.op rfl rfl rfl (ok_add (.t rfl) .c (fun _ => by omega)) fun I a w hs => ?_
      refine hs.op rfl rfl rfl (ok_assign (.t rfl)) fun I a w hs => ?_
      refine wpList_nil ?_
      refine then_n ?_
      refine wp_seq ?_
      refine St.region ?_
      refine hs.op rfl rfl rfl (ok_move (.t rfl)) fun I a w hs => ?_
      refine hs.op rfl rfl rfl (ok_move (.t rfl)) fun I a w hs => ?_
      refine hs.op rfl rfl rfl (ok_move (.t rfl)) fun I a w hs => ?_
      refine hs.op rfl rfl rfl (ok_idxO un25 ty35 (.t rfl) (.t rfl) (fun _ => by omega)) fun I a w hs => ?_
      refine hs.op rfl rfl rfl (ok_fieldV fd35_5 rfl (.t rfl)) fun I a w hs => ?_
      refine hs.storeRm (j := 5) 0 ty3 (.t rfl) (.t rfl) (by first | exact one_val rfl | exact one_rows | exact one_ptr | exact one_fn) rfl ⟨markTo_len hk, hb1⟩ rfl rfl fun a w hs => ?_
      refine wpList_nil ?_
      refine then_n ?_
      refine wp_seq ?_
      refine St.region ?_
      refine hs.op rfl rfl rfl (ok_move (.t rfl)) fun I a w hs => ?_
      refine hs.op rfl rfl rfl (ok_add (.t rfl) .c (fun _ => by omega)) fun I a w hs => ?_
      refine hs.op rfl rfl rfl (ok_assign (.t rfl)) fun I a w hs => ?_
      refine wpList_nil ?_
      refine then_n ?_
      refine wp_seq ?_
      refine St.region ?_
      refine hs.op rfl rfl rfl (ok_move (.t rfl)) fun I a w hs => ?_
      refine hs.op rfl rfl rfl (ok_move (.t rfl)) fun I a w hs => ?_
      refine hs.op rfl rfl rfl (ok_move (.t rfl)) fun I a w hs => ?_
      refine hs.op rfl rfl rfl (ok_idxO un25 ty35 (.t rfl) (.t rfl) (fun _ => by omega)) fun I a w hs => ?_
      refine hs.op rfl rfl rfl (ok_fieldV fd35_6 rfl (.t rfl)) fun I a w hs => ?_
      refine hs.storeRm (j := 6) 0 ty3 (.t rfl) (.t rfl) (by first | exact one_val rfl | exact one_rows | exact one_ptr | exact one_fn) rfl ⟨markTo_len hk, hb1⟩ rfl rfl fun a w hs => ?_
      refine wpList_nil ?_
      refine then_n ?_
      refine wp_seq ?_
      refine St.region ?_
      refine hs.op rfl rfl rfl (ok_move (.t rfl)) fun I a w hs => ?_
      refine hs.op rfl rfl rfl (ok_add (.t rfl) .c (fun _ => by omega)) fun I a w hs => ?_
      refine hs.op rfl rfl rfl (ok_assign (.t rfl)) fun I a w hs => ?_
      refine wpList_nil ?_
      refine then_n ?_
      refine wp_seq ?_
      refine St.region ?_
      refine hs.op rfl rfl rfl (ok_move (.t rfl)) fun I a w hs => ?_
      refine hs.op rfl rfl rfl (ok_move (.t rfl)) fun I a w hs => ?_
      refine hs.op rfl rfl rfl (ok_move (.t rfl)) fun I a w hs => ?_
      refine hs.op rfl rfl rfl (ok_idxO un25 ty35 (.t rfl) (.t rfl) (fun _ => by omega)) fun I a w hs => ?_
      refine hs.op rfl rfl rfl (ok_fieldV fd35_7 rfl (.t rfl)) fun I a w hs => ?_
      refine hs.storeRm (j := 7) 0 ty3 (.t rfl) (.t rfl) (by first | exact one_val rfl | exact one_rows | exact one_ptr | exact one_fn) rfl ⟨markTo_len hk, hb1⟩ rfl rfl fun a w hs => ?_
      refine wpList_nil ?_
      refine then_n ?_
      refine wp_seq ?_
      refine St.region ?_
      refine hs.op rfl rfl rfl (ok_move (.t rfl)) fun I a w hs => ?_
      refine hs.op rfl rfl rfl (ok_add (.t rfl) .c (fun _ => by omega)) fun I a w hs => ?_
      refine hs.op rfl rfl rfl (ok_assign (.t rfl)) fun I a w hs => ?_
      refine wpList_nil ?_
      refine then_n ?_
      refine wp_seq ?_
      refine St.region ?_
      refine hs.op rfl rfl rfl (ok_move (.t rfl)) fun I a w hs => ?_
      refine hs.op rfl rfl rfl (ok_move (.t rfl)) fun I a w hs => ?_
      refine hs.op rfl rfl rfl (ok_move (.t rfl)) fun I a w hs => ?_
      refine hs.op rfl rfl rfl (ok_idxO un25 ty35 (.t rfl) (.t rfl) (fun _ => by omega)) fun I a w hs => ?_
      refine hs.op rfl rfl rfl (ok_fieldV fd35_8 rfl (.t rfl)) fun I a w hs => ?_
      refine hs.storeRm (j := 8) 0 ty3 (.t rfl) (.t rfl) (by first | exact one_val rfl | exact one_rows | exact one_ptr | exact one_fn) rfl ⟨markTo_len hk, hb1⟩ rfl rfl fun a w hs => ?_
      refine wpList_nil ?_
      refine then_n ?_
      refine wp_seq ?_
      refine St.region ?_
      refine hs.op rfl rfl rfl (ok_move (.t rfl)) fun I a w hs => ?_
      refine hs.op rfl rfl rfl (ok_add (.t rfl) .c (fun _ => by omega)) fun I a w hs => ?_
      refine hs.op rfl rfl rfl (ok_assign (.t rfl)) fun I a w hs => ?_
      refine wpList_nil ?_
      refine then_n ?_
      refine wp_seq ?_
      refine St.region ?_
      refine hs.op rfl rfl rfl (ok_move (.t rfl)) fun I a w hs => ?_
      refine hs.op rfl rfl rfl (ok_move (.t rfl)) fun I a w hs => ?_
      refine hs.op rfl rfl rfl (ok_move (.t rfl)) fun I a w hs => ?_
      refine hs.op rfl rfl rfl (ok_idxO un25 ty35 (.t rfl) (.t rfl) (fun _ => by omega)) fun I a w hs => ?_
      refine hs.op rfl rfl rfl (ok_fieldV fd35_9 rfl (.t rfl)) fun I a w hs => ?_
      refine hs.storeRm (j := 9) 0 ty3 (.t rfl) (.t rfl) (by first | exact one_val rfl | exact one_rows | exact one_ptr | exact one_fn) rfl ⟨markTo_len hk, hb1⟩ rfl rfl fun a w hs => ?_
      refine wpList_nil ?_
      refine then_n ?_
      refine wp_seq ?_
      refine St.region ?_
      refine hs.op rfl rfl rfl (ok_move (.t rfl)) fun I a w hs => ?_
      refine hs.op rfl rfl rfl (ok_add (.t rfl) .c (fun _ => by omega)) fun I a w hs => ?_
      refine hs.op rfl rfl rfl (ok_assign (.t rfl)) fun I a w hs => ?_
      refine wpList_nil ?_
      refine then_n ?_
      refine wp_seq ?_
      refine St.region ?_
      refine hs.op rfl rfl rfl (ok_move (.t rfl)) fun I a w hs => ?_
      refine hs.op rfl rfl rfl (ok_move (.t rfl)) fun I a w hs => ?_
      refine hs.op rfl rfl rfl (ok_move (.t rfl)) fun I a w hs => ?_
      refine hs.op rfl rfl rfl (ok_idxO un25 ty35 (.t rfl) (.t rfl) (fun _ => by omega)) fun I a w hs => ?_
      refine hs.op rfl rfl rfl (ok_fieldV fd35_10 rfl (.t rfl)) fun I a w hs => ?_
      refine hs.storeRm (j := 10) 0 ty3 (.t rfl) (.t rfl) (by first | exact one_val rfl | exact one_rows | exact one_ptr | exact one_fn) rfl ⟨markTo_len hk, hb1⟩ rfl rfl fun a w hs => ?_
      refine wpList_nil ?_
      refine then_n ?_
      refine St.region ?_
      refine hs.op rfl rfl rfl (ok_move (.t rfl)) fun I a w hs => ?_
      refine hs.op rfl rfl rfl (ok_add (.t rfl) .c (fun _ => by omega)) fun I a w hs => ?_
      refine hs.op rfl rfl rfl (ok_assign (.t rfl)) fun I a w hs => ?_
      refine wpList_nil ?_
      refine block_n ?_
      refine then_n ?_
      refine St.region ?_
      refine hs.op rfl rfl rfl (ok_move (.t rfl)) fun I a w hs => ?_
      refine hs.op rfl rfl rfl (ok_add (.t rfl) .c (fun _ => by omega)) fun I a w hs => ?_
      refine hs.op rfl rfl rfl (ok_assign (.t rfl)) fun I a w hs => ?_
      refine wpList_nil ?_
      refine then_n ?_
      change St _ _ [Own.row _ 35 11 ((markTo l k).set k (markEv (1 + 11 * (k : Int))).cells)] _ _ _ at hs
      rw [markTo_set hb1] at hs
      refine hs.again (k + 1) ?mu1 ?ok1001 (by rfl) ?env1001 (by repeat (first | exact Env.le_rfl | refine Env.le_push rfl ?_))
      case mu1 => omega
      case ok1001 => exact hb1
      case env1001 => exact (Env.le_consE rfl (by rfl) (Env.le_consE rfl (by exact congrArg AV.int (by push_cast; omega)) Env.le_nil))
    · try simp only [decide_eq_true_eq, decide_eq_false_iff_not, Bool.not_eq_true', Bool.not_eq_false', Bool.and_eq_true, Bool.or_eq_true, Bool.and_eq_false_iff, Bool.or_eq_false_iff, beq_iff_eq, bne_iff_ne, bne_eq_false_iff_eq, beq_eq_false_iff_ne, ne_eq, Int.not_lt, Int.not_le, Int.ofNat_lt, Int.ofNat_le] at hb1
      rw [markTo_len hk] at hb1
      refine wp_exit ?_
      refine then_x ?_
      refine then_x ?_
      refine block_hit ?_
      refine then_n ?_
      refine wp_seq ?_
      refine St.region ?_
      refine hs.op rfl rfl rfl (ok_move (.t rfl)) fun I a w hs => ?_
      refine hs.op rfl rfl rfl (ok_assign (.t rfl)) fun I a w hs => ?_
      refine wpList_nil ?_
      refine then_n ?_
      refine wp_ret ?_
      exact hs.retM rfl (.cons (.t rfl) .nil) (by rw [markTo_all (by omega) hk]) (ret_int (by omega))


theorem readGo_len : ∀ (ls : List (List UInt8)) (out : List Ev) (k : Nat), (readGo out k ls).1.length ≤ out.length + ls.length
  | [], out, k => by simp [readGo]
  | ln :: ls, out, k => by
    unfold readGo
    split
    · have := readGo_len ls out (k + 1); simp; omega
    · split
      · have := readGo_len ls (out ++ [(readB ln).getD default]) (k + 1); simp at this ⊢; omega
      · simp
theorem readAll_len {s : List UInt8} (h : s.length ≤ 1048576) : (readAll s).1.length ≤ 1048577 := by
  unfold readAll
  split
  · simp
  · have h1 := readGo_len (splitB 10 s) [] 0
    have h2 := splitB_len 10 s
    simp at h1; omega
theorem args2 {J : Im} {a : Act} {x y : AV} {o o' : Operand} (h : x.h J (a.eval o)) (k : y.h J (a.eval o')) : HoldsA J [x, y] (#[o, o'].map a.eval).toList := by
  have e : (#[o, o'].map a.eval).toList = [a.eval o, a.eval o'] := by simp
  rw [e]; exact ⟨h, k, trivial⟩
theorem flat_int {n : Int} : ∀ (I J : Im) v, (AV.int n).h I v → (AV.int n).h J v := fun _ _ _ h => h
theorem flat_bool {b : Bool} : ∀ (I J : Im) v, (AV.bool b).h I v → (AV.bool b).h J v := fun _ _ _ h => h
theorem At.unpin4 {Γ : Env} {g : Bool} {t : Nat} {x : AV} {v : Value} (h : Env.get t Γ = some (.pin (.tab4 x) v)) : At Γ g (.tmp t) x := fun I a he _ => (he t _ h).1.1
theorem At.unpin5 {Γ : Env} {g : Bool} {t : Nat} {x : AV} {v : Value} (h : Env.get t Γ = some (.pin x v)) : At Γ g (.tmp t) x := fun I a he _ => (he t _ h).1

set_option maxHeartbeats 4000000 in
theorem c_laws_FnExactNeckRead (s : List UInt8) :
    Fn Tryd.prog 4 [AV.tab4 (AV.text s)] (AV.bool true) := by
  refine Fn.intro 66 Tryd.func4 rfl Tryd.ntmps4 rfl (by kernel_rfl) (fun W I a hs => ?_)
  refine wp_seq ?_
  refine St.region ?_
  refine hs.op rfl rfl rfl (ok_assign .c) fun I a w hs => ?_
  refine wpList_nil ?_
  refine then_n ?_
  refine wp_seq ?_
  refine wp_seq ?_
  refine St.region ?_
  refine hs.op rfl rfl rfl (ok_move (.untab4 rfl)) fun I a w hs => ?_
  refine hs.op rfl rfl rfl (ok_lenT un9 (.t rfl)) fun I a w hs => ?_
  refine hs.op rfl rfl rfl (ok_gtr (.t rfl) .c) fun I a w hs => ?_
  refine wpList_nil ?_
  refine then_n ?_
  refine hs.cond (.t rfl) (fun hb1 => ?_) (fun hb1 => ?_)
  · try simp only [decide_eq_true_eq, decide_eq_false_iff_not, Bool.not_eq_true', Bool.not_eq_false', Bool.and_eq_true, Bool.or_eq_true, Bool.and_eq_false_iff, Bool.or_eq_false_iff, beq_iff_eq, bne_iff_ne, bne_eq_false_iff_eq, beq_eq_false_iff_ne, ne_eq, Int.not_lt, Int.not_le, Int.ofNat_lt, Int.ofNat_le] at hb1
    refine wp_seq ?_
    refine St.region ?_
    refine hs.op rfl rfl rfl (ok_assign .c) fun I a w hs => ?_
    refine wpList_nil ?_
    refine then_n ?_
    refine wp_ret ?_
    refine then_r ?_
    exact hs.ret rfl (.cons (.t rfl) .nil) rfl
  · have hlen : s.length ≤ 1048576 := by simp at hb1; omega
    refine wp_skip ?_
    refine then_n ?_
    refine wp_seq ?_
    refine St.region ?_
    refine hs.op rfl rfl rfl (ok_move (.untab4 rfl)) fun I a w hs => ?_
    refine hs.op rfl rfl rfl (ok_call (c_spec_NeckRead _ hlen) (args_cons (.t rfl) args_nil)) fun I a w hs => ?_
    refine hs.op rfl rfl rfl (ok_move (.t rfl)) fun I a w hs => ?_
    refine hs.op rfl rfl rfl (ok_extract (.t rfl) rfl) fun I a w hs => ?_
    refine hs.op rfl rfl rfl (ok_extract (.t rfl) rfl) fun I a w hs => ?_
    refine hs.op rfl rfl rfl (ok_assign (.t rfl)) fun I a w hs => ?_
    refine hs.op rfl rfl rfl (ok_assign (.t rfl)) fun I a w hs => ?_
    refine wpList_nil ?_
    refine then_n ?_
    refine wp_seq ?_
    refine St.region ?_
    have hst0 := hs.step
    have h0 := hs.env 0 _ rfl
    have h3 := hs.env 3 _ rfl
    have hs := (hs.pin (t := 0) rfl).pin (t := 3) rfl
    generalize a.tmps.getD 0 undef = v0 at hs h0
    generalize a.tmps.getD 3 undef = v3 at hs h3
    have hs := (hs.le (Γ' := [(3, AV.pin (evsAV (readAll s).1) v3), (0, AV.pin (AV.tab4 (AV.text s)) v0), (4, AV.int (readAll s).2), (2, AV.bool false)]) (Env.le_consE rfl rfl (Env.le_consE rfl rfl (Env.le_consE rfl rfl (Env.le_consE rfl rfl Env.le_nil))))).rebase
    refine hs.op rfl rfl rfl (ok_move (.t rfl)) fun I a w hs => ?_
    refine hs.callRead rfl (c_impl_NeckRead s hlen) (args_cons (.unpin5 rfl) args_nil) fun I sv21 a w hs => ?_
    refine hs.op rfl rfl rfl (ok_move (.t rfl)) fun I a w hs => ?_
    refine hs.op rfl rfl rfl (ok_extract (.t rfl) rfl) fun I a w hs => ?_
    refine hs.op rfl rfl rfl (ok_extract (.t rfl) rfl) fun I a w hs => ?_
    refine hs.op rfl rfl rfl (ok_assign (.t rfl)) fun I a w hs => ?_
    refine hs.op rfl rfl rfl (ok_assign (.t rfl)) fun I a w hs => ?_
    refine wpList_nil ?_
    refine then_n ?_
    refine wp_seq ?_
    refine wp_seq ?_
    refine St.region ?_
    refine hs.op rfl rfl rfl (ok_move (.t rfl)) fun I a w hs => ?_
    refine hs.op rfl rfl rfl (ok_move (.t rfl)) fun I a w hs => ?_
    refine hs.callR rfl (c_laws_eqNeckEventS (readAll s).1 (readAll s).1) flat_bool (args2 (hs.argRow 0 rfl rfl) (hs.argAt (.unpin5 rfl))) fun a w hs => ?_
    refine hs.op rfl rfl rfl (ok_not (.t rfl)) fun I a w hs => ?_
    refine hs.op rfl rfl rfl (ok_move (.t rfl)) fun I a w hs => ?_
    refine hs.opG (guarded_F rfl rfl rfl) rfl rfl (ok_move (.t rfl)) fun I a w hs => ?_
    refine hs.opG (guarded_F rfl rfl rfl) rfl rfl (ok_move (.t rfl)) fun I a w hs => ?_
    refine hs.opG (guarded_F rfl rfl rfl) rfl rfl (ok_nei (.g rfl (fun hg => by first | exact hg | exact (Bool.and_eq_true_iff.1 hg).1 | exact (Bool.and_eq_true_iff.1 (Bool.and_eq_true_iff.1 hg).1).1)) (.g rfl (fun hg => by first | exact hg | exact (Bool.and_eq_true_iff.1 hg).1 | exact (Bool.and_eq_true_iff.1 (Bool.and_eq_true_iff.1 hg).1).1))) fun I a w hs => ?_
    refine hs.op rfl rfl rfl (ok_or (.t rfl) .c (by first | exact .t rfl | exact .gc rfl (fun hg => hg) | exact .gc rfl (fun hg => (Bool.and_eq_true_iff.1 hg).1))) fun I a w hs => ?_
    refine wpList_nil ?_
    refine then_n ?_
    refine hs.cond (.t rfl) (fun hb2 => ?_) (fun hb2 => ?_)
    · exfalso; simp at hb2
      skip
    · try simp only [decide_eq_true_eq, decide_eq_false_iff_not, Bool.not_eq_true', Bool.not_eq_false', Bool.and_eq_true, Bool.or_eq_true, Bool.and_eq_false_iff, Bool.or_eq_false_iff, beq_iff_eq, bne_iff_ne, bne_eq_false_iff_eq, beq_eq_false_iff_ne, ne_eq, Int.not_lt, Int.not_le, Int.ofNat_lt, Int.ofNat_le] at hb2
      refine wp_skip ?_
      refine then_n ?_
      refine wp_seq ?_
      refine St.region ?_
      refine hs.op rfl rfl rfl (ok_assign .c) fun I a w hs => ?_
      refine wpList_nil ?_
      refine then_n ?_
      refine wp_seq ?_
      refine St.region ?_
      refine hs.op rfl rfl rfl (ok_move (.t rfl)) fun I a w hs => ?_
      refine hs.op rfl rfl rfl (ok_move (.t rfl)) fun I a w hs => ?_
      refine hs.callM rfl (c_laws_markNeckEventS sv21 (readAll s).1 (readAll_len hlen)) (args_cons (.t rfl) (args_cons (.t rfl) args_nil)) (Γ' := [(3, AV.pin (evsAV (readAll s).1) v3), (0, AV.pin (AV.tab4 (AV.text s)) v0), (4, AV.int (readAll s).2), (5, AV.val sv21)]) (Env.le_consE rfl rfl (Env.le_consE rfl rfl (Env.le_consE rfl rfl (Env.le_consE rfl rfl Env.le_nil)))) ?hr35 fun I a w hs => ?_
      case hr35 =>
        intro p hp
        simp only [List.mem_cons, List.not_mem_nil, or_false] at hp
        rcases hp with rfl | rfl | rfl | rfl <;> first | exact rigid_val | exact rigid_pin h3 | exact rigid_pin h0
      refine hs.op rfl rfl rfl (ok_assign (.t rfl)) fun I a w hs => ?_
      refine wpList_nil ?_
      refine then_n ?_
      refine wp_seq ?_
      refine St.region ?_
      refine hs.op rfl rfl rfl (ok_assign .c) fun I a w hs => ?_
      refine wpList_nil ?_
      refine then_n ?_
      refine wp_seq ?_
      refine St.region ?_
      refine hs.op rfl rfl rfl (ok_move (.t rfl)) fun I a w hs => ?_
      refine hs.op rfl rfl rfl (ok_move (.t rfl)) fun I a w hs => ?_
      refine hs.callR rfl (c_laws_heldNeckEventS (readAll s).1.length (readAll_len hlen)) flat_int (args2 (hs.argRow 0 rfl rfl) (hs.argAt (.t rfl))) fun a w hs => ?_
      refine hs.op rfl rfl rfl (ok_assign (.t rfl)) fun I a w hs => ?_
      refine wpList_nil ?_
      refine then_n ?_
      refine wp_seq ?_
      refine wp_seq ?_
      refine St.region ?_
      refine hs.op rfl rfl rfl (ok_move (.t rfl)) fun I a w hs => ?_
      refine hs.op rfl rfl rfl (ok_lss (.t rfl) .c) fun I a w hs => ?_
      refine wpList_nil ?_
      refine then_n ?_
      refine hs.cond (.t rfl) (fun hb3 => ?_) (fun hb3 => ?_)
      · exfalso; simp at hb3; omega
        skip
      · try simp only [decide_eq_true_eq, decide_eq_false_iff_not, Bool.not_eq_true', Bool.not_eq_false', Bool.and_eq_true, Bool.or_eq_true, Bool.and_eq_false_iff, Bool.or_eq_false_iff, beq_iff_eq, bne_iff_ne, bne_eq_false_iff_eq, beq_eq_false_iff_ne, ne_eq, Int.not_lt, Int.not_le, Int.ofNat_lt, Int.ofNat_le] at hb3
        refine wp_skip ?_
        refine then_n ?_
        refine wp_seq ?_
        refine wp_seq ?_
        refine St.region ?_
        refine hs.op rfl rfl rfl (ok_move (.t rfl)) fun I a w hs => ?_
        refine hs.op rfl rfl rfl (ok_move (.t rfl)) fun I a w hs => ?_
        refine hs.op rfl rfl rfl (ok_nei (.t rfl) (.t rfl)) fun I a w hs => ?_
        refine wpList_nil ?_
        refine then_n ?_
        refine hs.cond (.t rfl) (fun hb4 => ?_) (fun hb4 => ?_)
        · exfalso; simp at hb4
          skip
        · try simp only [decide_eq_true_eq, decide_eq_false_iff_not, Bool.not_eq_true', Bool.not_eq_false', Bool.and_eq_true, Bool.or_eq_true, Bool.and_eq_false_iff, Bool.or_eq_false_iff, beq_iff_eq, bne_iff_ne, bne_eq_false_iff_eq, beq_eq_false_iff_ne, ne_eq, Int.not_lt, Int.not_le, Int.ofNat_lt, Int.ofNat_le] at hb4
          refine wp_skip ?_
          refine then_n ?_
          refine wp_seq ?_
          refine St.region ?_
          refine hs.op rfl rfl rfl (ok_move (.t rfl)) fun I a w hs => ?_
          refine hs.callRead rfl (c_impl_NeckRead s hlen) (args_cons (.unpin5 rfl) args_nil) fun I sv46 a w hs => ?_
          refine hs.op rfl rfl rfl (ok_move (.t rfl)) fun I a w hs => ?_
          refine hs.op rfl rfl rfl (ok_extract (.t rfl) rfl) fun I a w hs => ?_
          refine hs.op rfl rfl rfl (ok_extract (.t rfl) rfl) fun I a w hs => ?_
          refine hs.op rfl rfl rfl (ok_assign (.t rfl)) fun I a w hs => ?_
          refine hs.op rfl rfl rfl (ok_assign (.t rfl)) fun I a w hs => ?_
          refine wpList_nil ?_
          refine then_n ?_
          refine wp_seq ?_
          refine wp_seq ?_
          refine St.region ?_
          refine hs.op rfl rfl rfl (ok_move (.t rfl)) fun I a w hs => ?_
          refine hs.op rfl rfl rfl (ok_move (.t rfl)) fun I a w hs => ?_
          refine hs.callR rfl (c_laws_eqNeckEventS (readAll s).1 (readAll s).1) flat_bool (args2 (hs.argRow 1 rfl rfl) (hs.argAt (.unpin5 rfl))) fun a w hs => ?_
          refine hs.op rfl rfl rfl (ok_not (.t rfl)) fun I a w hs => ?_
          refine hs.op rfl rfl rfl (ok_move (.t rfl)) fun I a w hs => ?_
          refine hs.opG (guarded_F rfl rfl rfl) rfl rfl (ok_move (.t rfl)) fun I a w hs => ?_
          refine hs.opG (guarded_F rfl rfl rfl) rfl rfl (ok_move (.t rfl)) fun I a w hs => ?_
          refine hs.opG (guarded_F rfl rfl rfl) rfl rfl (ok_nei (.g rfl (fun hg => by first | exact hg | exact (Bool.and_eq_true_iff.1 hg).1 | exact (Bool.and_eq_true_iff.1 (Bool.and_eq_true_iff.1 hg).1).1)) (.g rfl (fun hg => by first | exact hg | exact (Bool.and_eq_true_iff.1 hg).1 | exact (Bool.and_eq_true_iff.1 (Bool.and_eq_true_iff.1 hg).1).1))) fun I a w hs => ?_
          refine hs.op rfl rfl rfl (ok_or (.t rfl) .c (by first | exact .t rfl | exact .gc rfl (fun hg => hg) | exact .gc rfl (fun hg => (Bool.and_eq_true_iff.1 hg).1))) fun I a w hs => ?_
          refine wpList_nil ?_
          refine then_n ?_
          refine hs.cond (.t rfl) (fun hb5 => ?_) (fun hb5 => ?_)
          · exfalso; simp at hb5
            skip
          · try simp only [decide_eq_true_eq, decide_eq_false_iff_not, Bool.not_eq_true', Bool.not_eq_false', Bool.and_eq_true, Bool.or_eq_true, Bool.and_eq_false_iff, Bool.or_eq_false_iff, beq_iff_eq, bne_iff_ne, bne_eq_false_iff_eq, beq_eq_false_iff_ne, ne_eq, Int.not_lt, Int.not_le, Int.ofNat_lt, Int.ofNat_le] at hb5
            refine wp_skip ?_
            refine then_n ?_
            refine wp_seq ?_
            refine St.region ?_
            refine hs.op rfl rfl rfl (ok_assign .c) fun I a w hs => ?_
            refine wpList_nil ?_
            refine then_n ?_
            refine wp_seq ?_
            refine St.region ?_
            refine hs.op rfl rfl rfl (ok_move (.t rfl)) fun I a w hs => ?_
            refine hs.op rfl rfl rfl (ok_move (.t rfl)) fun I a w hs => ?_
            refine hs.callR rfl (c_laws_heldNeckEventS (readAll s).1.length (readAll_len hlen)) flat_int (args2 (hs.argRow 0 rfl rfl) (hs.argAt (.t rfl))) fun a w hs => ?_
            refine hs.op rfl rfl rfl (ok_assign (.t rfl)) fun I a w hs => ?_
            refine wpList_nil ?_
            refine then_n ?_
            refine wp_seq ?_
            refine wp_seq ?_
            refine St.region ?_
            refine hs.op rfl rfl rfl (ok_move (.t rfl)) fun I a w hs => ?_
            refine hs.op rfl rfl rfl (ok_lss (.t rfl) .c) fun I a w hs => ?_
            refine wpList_nil ?_
            refine then_n ?_
            refine hs.cond (.t rfl) (fun hb6 => ?_) (fun hb6 => ?_)
            · exfalso; simp at hb6; omega
              skip
            · try simp only [decide_eq_true_eq, decide_eq_false_iff_not, Bool.not_eq_true', Bool.not_eq_false', Bool.and_eq_true, Bool.or_eq_true, Bool.and_eq_false_iff, Bool.or_eq_false_iff, beq_iff_eq, bne_iff_ne, bne_eq_false_iff_eq, beq_eq_false_iff_ne, ne_eq, Int.not_lt, Int.not_le, Int.ofNat_lt, Int.ofNat_le] at hb6
              refine wp_skip ?_
              refine then_n ?_
              refine wp_seq ?_
              refine wp_seq ?_
              refine St.region ?_
              refine hs.op rfl rfl rfl (ok_move (.t rfl)) fun I a w hs => ?_
              refine hs.op rfl rfl rfl (ok_move (.t rfl)) fun I a w hs => ?_
              refine hs.op rfl rfl rfl (ok_nei (.t rfl) (.t rfl)) fun I a w hs => ?_
              refine wpList_nil ?_
              refine then_n ?_
              refine hs.cond (.t rfl) (fun hb7 => ?_) (fun hb7 => ?_)
              · exfalso; simp at hb7
                skip
              · try simp only [decide_eq_true_eq, decide_eq_false_iff_not, Bool.not_eq_true', Bool.not_eq_false', Bool.and_eq_true, Bool.or_eq_true, Bool.and_eq_false_iff, Bool.or_eq_false_iff, beq_iff_eq, bne_iff_ne, bne_eq_false_iff_eq, beq_eq_false_iff_ne, ne_eq, Int.not_lt, Int.not_le, Int.ofNat_lt, Int.ofNat_le] at hb7
                refine wp_skip ?_
                refine then_n ?_
                refine wp_seq ?_
                refine St.region ?_
                refine hs.op rfl rfl rfl (ok_assign .c) fun I a w hs => ?_
                refine wpList_nil ?_
                refine then_n ?_
                refine wp_ret ?_
                exact rebased hst0 (hs.ret rfl (.cons (.t rfl) .nil) rfl)

end Go.Proofs.YtblcocjbnjfhkaaDoor
