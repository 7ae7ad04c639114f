/- Walks: the program reads a text, into memory of its own; what is marked is held. -/
import Derived.Test.YtblcocjbnjfhkaaDoorWalkB
set_option linter.unusedVariables false
set_option linter.unusedSimpArgs false
set_option maxRecDepth 100000
namespace Go.Proofs.YtblcocjbnjfhkaaDoor
open Go Go.RowKit


theorem calls_intro {P : Program} {f : FuncId} {fn : Func} {code : Code} {args : List AV} {R : Ending → World → Prop} (N : Nat) (hf : P.funcs[f]? = some fn) (hb : fn.body = some code) (hn : fn.ntmps = N) (hN : Nat.ble args.length N = true)
    {W0 : World} {I0 I : Im} {w : World} {vs : Array Value} {h0 : List Own} (hst : Step I0 W0 I w) (hown : OwnsAll W0.heap.size I w h0) (ha : HoldsA I args vs.toList)
    (h : ∀ a : Act, St ⟨W0, I0, N⟩ I h0 (argsEnv 0 args) a w → code.wp P (bodyPost P fn R) a w) : Calls P f vs w R := by
  refine calls_of_wp hf hb ?_
  have hl : vs.size = args.length := by simpa using ha.length
  have hN' : args.length ≤ N := Nat.le_of_ble_eq_true hN
  refine h _ ⟨hst, hown, ?_, ?_, rfl⟩
  · intro t x e
    have := argsEnv_ok args vs.toList [] (List.replicate (fn.ntmps - vs.size) undef) ha t x e
    have heq : (vs ++ Array.replicate (fn.ntmps - vs.size) undef) = ([] ++ vs.toList ++ List.replicate (fn.ntmps - vs.size) undef).toArray := by
      apply Array.toList_inj.1; simp
    rw [heq]; exact this
  · simp [hn, hl]; omega
/-- Events read, in memory of the call's own. -/
def RetO (I : Im) (w : World) (l : List Ev) (n : Int) : Ending → World → Prop
  | .returned v, w' => ∃ I' sv, Step I w I' w' ∧ v = .tuple #[sv, .int .i64 n] ∧ OwnsAll w.heap.size I' w' [Own.row sv 35 11 (l.map Ev.cells)]
  | _, _ => False
def FnRead (f : FuncId) (args : List AV) (l : List Ev) (n : Int) : Prop :=
  Enters Tryd.prog f ∧ ∀ (I : Im) (w : World) (vs : Array Value), Models w I → HoldsA I args vs.toList → Calls Tryd.prog f vs w (RetO I w l n)
theorem FnRead.intro {f : FuncId} {fn : Func} {code : Code} {args : List AV} {l : List Ev} {n : Int} (N : Nat) (hf : Tryd.prog.funcs[f]? = some fn) (hb : fn.body = some code) (hn : fn.ntmps = N) (hN : Nat.ble args.length N = true) (hname : (fn.name == "runtime.NumGoroutine") = false)
    (h : ∀ (W : World) (I : Im) (a : Act), St ⟨W, I, N⟩ I [] (argsEnv 0 args) a W → code.wp Tryd.prog (bodyPost Tryd.prog fn (RetO I W l n)) a W) : FnRead f args l n :=
  ⟨Enters.of hf hb hname, fun I w vs hm ha => calls_intro N hf hb hn hN (Step.refl hm) (OwnsAll.nil _ _ _) ha (h w I)⟩
section
variable {c : Ctx} {I : Im} {H : List Own} {Γ : Env} {a : Act} {w : World}
theorem OwnsAll.only {base : Nat} {x : Own} {k : Nat} (h : OwnsAll base I w H) (hk : H[k]? = some x) : OwnsAll base I w [x] :=
  ⟨fun o ho => by obtain rfl : o = x := by simpa using ho
                  exact h.all _ (List.mem_of_getElem? hk), by
    simp only [List.filterMap_cons, List.filterMap_nil]
    cases x.blk <;> simp⟩
theorem St.retO {fn : Func} {sv : Value} {l l' : List Ev} {n n' : Int} (k : Nat) (hs : St c I H Γ a w) (hr : fn.results = #[.tmp 2, .tmp 3]) (h2 : Env.get 2 Γ = some (.val sv)) (h3 : Env.get 3 Γ = some (.int n)) (hk : H[k]? = some (Own.row sv 35 11 (l.map Ev.cells))) (hl : l = l') (hn : n = n') :
    bodyPost Tryd.prog fn (RetO c.I c.W l' n') .ret a w := by
  subst hl hn
  obtain ⟨v, h1, cs, hv, hc⟩ := hs.retRun (P := Tryd.prog) (fn := fn) (rs := [.tmp 2, .tmp 3]) (xs := [.val sv, .int n]) hr (.cons (.t h2) (.cons (.t h3) .nil))
  refine ⟨hs.defers, v, h1, I, sv, hs.step, ?_, hs.own.only hk⟩
  obtain ⟨cs⟩ := cs
  match cs, hc with
  | [x, y], ⟨hx, hy, _⟩ =>
    have hx : x = sv := hx
    have hy : y = .int .i64 n := hy
    rw [hv, hx, hy]
end

theorem c_impl_NeckRead (s : List UInt8) (hl : s.length ≤ 1048576) :
    FnRead 11 [AV.tab4 (AV.text s)] (readAll s).1 (readAll s).2 := by
  refine FnRead.intro 37 Tryd.func11 rfl Tryd.ntmps11 rfl (by kernel_rfl) (fun W I a hs => ?_)
  have hsl := splitB_len 10 s
  refine wp_seq ?_
  refine St.region ?_
  refine hs.op rfl rfl rfl (ok_assign .c) fun I a w hs => ?_
  refine hs.op rfl rfl rfl (ok_assign .c) fun I a w hs => ?_
  refine wpList_nil ?_
  refine then_n ?_
  refine wp_seq ?_
  refine wp_seq ?_
  refine St.region ?_
  refine hs.op rfl rfl rfl (ok_move (.untab4 rfl)) fun I a w hs => ?_
  refine hs.op rfl rfl rfl (ok_lenT un9 (.t rfl)) fun I a w hs => ?_
  refine hs.op rfl rfl rfl (ok_gtr (.t rfl) .c) fun I a w hs => ?_
  refine wpList_nil ?_
  refine then_n ?_
  refine hs.cond (.t rfl) (fun hb1 => ?_) (fun hb1 => ?_)
  · try simp only [decide_eq_true_eq, decide_eq_false_iff_not, Bool.not_eq_true', Bool.not_eq_false', Bool.and_eq_true, Bool.or_eq_true, Bool.and_eq_false_iff, Bool.or_eq_false_iff, beq_iff_eq, bne_iff_ne, bne_eq_false_iff_eq, beq_eq_false_iff_ne, ne_eq, Int.not_lt, Int.not_le, Int.ofNat_lt, Int.ofNat_le] at hb1
    refine wp_seq ?_
    refine St.region ?_
    refine hs.op rfl rfl rfl (ok_assign .c) fun I a w hs => ?_
    refine hs.op rfl rfl rfl (ok_assign .c) fun I a w hs => ?_
    refine wpList_nil ?_
    refine then_n ?_
    refine wp_ret ?_
    refine then_r ?_
    have hs := hs.ownNil (sz := 11) 35
    exact hs.retO (l := []) 0 rfl rfl rfl rfl (by unfold readAll; rw [if_pos (by omega)]) (by unfold readAll; rw [if_pos (by omega)])
  · try simp only [decide_eq_true_eq, decide_eq_false_iff_not, Bool.not_eq_true', Bool.not_eq_false', Bool.and_eq_true, Bool.or_eq_true, Bool.and_eq_false_iff, Bool.or_eq_false_iff, beq_iff_eq, bne_iff_ne, bne_eq_false_iff_eq, beq_eq_false_iff_ne, ne_eq, Int.not_lt, Int.not_le, Int.ofNat_lt, Int.ofNat_le] at hb1
    refine wp_skip ?_
    refine then_n ?_
    refine wp_seq ?_
    refine St.region ?_
    refine hs.op rfl rfl rfl (ok_assign .c) fun I a w hs => ?_
    have hs := hs.ownNil (sz := 11) 35
    refine wpList_nil ?_
    refine then_n ?_
    refine wp_seq ?_
    refine wp_seq ?_
    refine St.region ?_
    refine hs.op rfl rfl rfl (ok_move (.untab4 rfl)) fun I a w hs => ?_
    refine hs.op rfl rfl rfl (ok_call (c_strings_Split _ 10 hl) (args_cons (.tab4 (t := 0) rfl (.t rfl)) (args_cons .c args_nil))) fun I a w hs => ?_
    refine hs.op rfl rfl rfl ((by first | exact ok_lenM un51 (.t rfl) | exact ok_len un51 (.t rfl) | exact ok_lenV un51 (.t rfl))) fun I a w hs => ?_
    refine hs.op rfl rfl rfl (ok_move .c) fun I a w hs => ?_
    refine wpList_nil ?_
    refine then_n ?_
    refine wp_block ?_
    refine St.loopS (σ := Nat × List Ev × Value) (2 :: 3 :: 4 :: 5 :: 6 :: 7 :: 8 :: 15 :: 16 :: 17 :: 18 :: 19 :: 20 :: 21 :: 22 :: 23 :: 24 :: 25 :: 26 :: 27 :: 28 :: 29 :: 30 :: 31 :: 32 :: 33 :: 34 :: 35 :: []) ⟨fun ⟨k, out, v⟩ => [(15, AV.int k), (4, AV.val v)], fun ⟨k, out, v⟩ => [Own.row v 35 11 (out.map Ev.cells)], fun ⟨k, out, v⟩ => k ≤ (splitB 10 s).length ∧ readAll s = readGo out k ((splitB 10 s).drop k) ∧ out.length ≤ k⟩ (fun ⟨k, out, v⟩ => (splitB 10 s).length - k) (0, [], .slice none 0 0) hs rfl ?ok1 ?env1 ?round1
    case ok1 => exact ⟨by simp, by unfold readAll; rw [if_neg (by omega)]; rfl, by simp⟩
    case env1 => exact (Env.le_consE rfl (by rfl) (Env.le_consE rfl (by rfl) Env.le_nil))
    case round1 =>
      rintro ⟨k, out, v⟩ I a w hok hs
      obtain ⟨hk, he, hol⟩ := hok
      change St _ _ [Own.row v 35 11 (out.map Ev.cells)] _ _ _ at hs
      refine wp_seq ?_
      refine St.region ?_
      refine hs.op rfl rfl rfl (ok_lss (.t rfl) (.t rfl)) fun I a w hs => ?_
      refine wpList_nil ?_
      refine then_n ?_
      refine wp_seq ?_
      refine hs.cond (.t rfl) (fun hb2 => ?_) (fun hb2 => ?_)
      · try simp only [decide_eq_true_eq, decide_eq_false_iff_not, Bool.not_eq_true', Bool.not_eq_false', Bool.and_eq_true, Bool.or_eq_true, Bool.and_eq_false_iff, Bool.or_eq_false_iff, beq_iff_eq, bne_iff_ne, bne_eq_false_iff_eq, beq_eq_false_iff_ne, ne_eq, Int.not_lt, Int.not_le, Int.ofNat_lt, Int.ofNat_le] at hb2
        refine wp_skip ?_
        refine then_n ?_
        refine wp_seq ?_
        refine wp_block ?_
        refine wp_seq ?_
        refine St.region ?_
        refine hs.op rfl rfl rfl (ok_move (.t rfl)) fun I a w hs => ?_
        refine hs.op rfl rfl rfl ((by first | exact ok_idxN un51 ty9 (.t rfl) (.t rfl) (fun _ => by exact hb2) | exact ok_idxM un51 ty9 (.t rfl) (.t rfl) (fun _ => by exact hb2) | exact ok_idx un51 ty9 (.t rfl) (.t rfl) (fun _ => by exact hb2))) fun I a w hs => ?_
        refine hs.op rfl rfl rfl (ok_load1 ty9 (.t rfl)) fun I a w hs => ?_
        refine hs.op rfl rfl rfl (ok_assign (.t rfl)) fun I a w hs => ?_
        refine hs.op rfl rfl rfl (ok_assign (.t rfl)) fun I a w hs => ?_
        refine wpList_nil ?_
        refine then_n ?_
        refine wp_seq ?_
        refine wp_seq ?_
        refine St.region ?_
        refine hs.op rfl rfl rfl (ok_move (.t rfl)) fun I a w hs => ?_
        refine hs.op rfl rfl rfl (ok_eqT (.t rfl) .c) fun I a w hs => ?_
        refine wpList_nil ?_
        refine then_n ?_
        refine hs.cond (.t rfl) (fun hb3 => ?_) (fun hb3 => ?_)
        · try simp only [decide_eq_true_eq, decide_eq_false_iff_not, Bool.not_eq_true', Bool.not_eq_false', Bool.and_eq_true, Bool.or_eq_true, Bool.and_eq_false_iff, Bool.or_eq_false_iff, beq_iff_eq, bne_iff_ne, bne_eq_false_iff_eq, beq_eq_false_iff_ne, ne_eq, Int.not_lt, Int.not_le, Int.ofNat_lt, Int.ofNat_le] at hb3
          refine wp_exit ?_
          refine then_x ?_
          refine block_hit ?_
          refine then_n ?_
          refine St.region ?_
          refine hs.op rfl rfl rfl (ok_add (.t rfl) .c (fun _ => by omega)) fun I a w hs => ?_
          refine hs.op rfl rfl rfl (ok_move (.t rfl)) fun I a w hs => ?_
          refine wpList_nil ?_
          refine then_n ?_
          refine hs.again (k + 1, out, v) ?mu1 ?ok1001 (by rfl) ?env1001 (by repeat (first | exact Env.le_rfl | refine Env.le_push rfl ?_))
          case mu1 => simp; omega
          case ok1001 => first | exact ⟨hb2, by rw [he, drop_elt hb2, readGo, if_pos hb3], by omega⟩ | exact ⟨hb2, by rw [he, drop_elt hb2, readGo, if_neg hb3, if_pos hb4], by simp; omega⟩
          case env1001 => exact (Env.le_consE rfl (by first | rfl | (congr 1; done)) (Env.le_consE rfl (by first | rfl | (congr 1; done)) Env.le_nil))
        · try simp only [decide_eq_true_eq, decide_eq_false_iff_not, Bool.not_eq_true', Bool.not_eq_false', Bool.and_eq_true, Bool.or_eq_true, Bool.and_eq_false_iff, Bool.or_eq_false_iff, beq_iff_eq, bne_iff_ne, bne_eq_false_iff_eq, beq_eq_false_iff_ne, ne_eq, Int.not_lt, Int.not_le, Int.ofNat_lt, Int.ofNat_le] at hb3
          refine wp_skip ?_
          refine then_n ?_
          refine wp_seq ?_
          refine St.region ?_
          refine hs.op rfl rfl rfl (ok_move (.t rfl)) fun I a w hs => ?_
          refine hs.op rfl rfl rfl (ok_call (c_impl_readEvent _ (by have := splitB_elt 10 s _ (elt_memT hb2); omega)) (args_cons (.tab4 (t := 0) rfl (.t rfl)) args_nil)) fun I a w hs => ?_
          refine hs.op rfl rfl rfl (ok_move (.t rfl)) fun I a w hs => ?_
          refine hs.op rfl rfl rfl (ok_extract (.t rfl) rfl) fun I a w hs => ?_
          refine hs.op rfl rfl rfl (ok_extract (.t rfl) rfl) fun I a w hs => ?_
          refine hs.alloc rfl ty35 zc35 fun b7 I a w hs => ?_
          refine hs.storeB 1 ty35 (.t rfl) (.t rfl) rfl (by first | rfl | assumption) rfl fun a w hs => ?_
          obtain ⟨I, hs, hf⟩ := hs.freezeBox 1 rfl
          have hs := hs.upd (t := 7) rfl hf; clear hf
          refine hs.op rfl rfl rfl (ok_assign (.t rfl)) fun I a w hs => ?_
          refine wpList_nil ?_
          refine then_n ?_
          refine wp_seq ?_
          refine wp_seq ?_
          refine St.region ?_
          refine hs.op rfl rfl rfl (ok_move (.t rfl)) fun I a w hs => ?_
          refine hs.op rfl rfl rfl (ok_not (.t rfl)) fun I a w hs => ?_
          refine wpList_nil ?_
          refine then_n ?_
          refine hs.cond (.t rfl) (fun hb4 => ?_) (fun hb4 => ?_)
          · rw [Bool.not_eq_true'] at hb4
            refine wp_seq ?_
            refine St.region ?_
            refine hs.op rfl rfl rfl (ok_move (.t rfl)) fun I a w hs => ?_
            refine hs.op rfl rfl rfl (ok_add (.t rfl) .c (fun _ => by omega)) fun I a w hs => ?_
            refine hs.op rfl rfl rfl (ok_assign .c) fun I a w hs => ?_
            refine hs.op rfl rfl rfl (ok_assign (.t rfl)) fun I a w hs => ?_
            refine wpList_nil ?_
            refine then_n ?_
            refine wp_ret ?_
            refine then_r ?_
            refine block_r ?_
            refine then_r ?_
            refine then_r ?_
            refine block_r ?_
            refine then_r ?_
            have e9 : readAll s = ([], (k : Int) + 1) := by rw [he, drop_elt hb2, readGo, if_neg hb3, if_neg (by rw [hb4]; simp)]
            have hs := hs.ownNil (sz := 11) 35
            exact hs.retO (l := []) 2 rfl rfl rfl rfl (by rw [e9]) (by rw [e9])
          · rw [Bool.not_eq_false'] at hb4
            refine wp_skip ?_
            refine then_n ?_
            refine St.region ?_
            refine hs.op rfl rfl rfl (ok_move (.t rfl)) fun I a w hs => ?_
            refine hs.op rfl rfl rfl ((by first | exact ok_loadA ty35 (.t rfl) rfl | exact ok_loadS ty35 (.t rfl) rfl)) fun I a w hs => ?_
            refine hs.op rfl rfl rfl (ok_litAll (lxs := [_]) un25 ty35 rfl zo35 rfl rfl (Parts.s rfl rfl rfl (.t rfl) Parts.nil) rfl (by simp only [List.forall_mem_cons]; exact ⟨rfl, fun _ h => by simp at h⟩)) fun I a w hs => ?_
            refine hs.append 0 rfl un25 ty35 rfl (.t rfl) (by first | exact .t rfl | exact .nil (.t rfl)) rfl (by simp; omega) fun v34 a w hs => ?_
            change St _ _ [Own.row v34 35 11 (out.map Ev.cells ++ [((readB (elt (splitB 10 s) k)).getD default).cells]), Own.gone] _ _ _ at hs
            rw [snoc_ev] at hs
            refine hs.op rfl rfl rfl (ok_assign (.t rfl)) fun I a w hs => ?_
            have hs := hs.ownNil (sz := 11) 35
            refine wpList_nil ?_
            refine block_n ?_
            refine then_n ?_
            refine St.region ?_
            refine hs.op rfl rfl rfl (ok_add (.t rfl) .c (fun _ => by omega)) fun I a w hs => ?_
            refine hs.op rfl rfl rfl (ok_move (.t rfl)) fun I a w hs => ?_
            refine wpList_nil ?_
            refine then_n ?_
            have hs := hs.drop 1
            refine hs.again (k + 1, out ++ [(readB (elt (splitB 10 s) k)).getD default], v34) ?mu2 ?ok1002 (by rfl) ?env1002 (by repeat (first | exact Env.le_rfl | refine Env.le_push rfl ?_))
            case mu2 => simp; omega
            case ok1002 => first | exact ⟨hb2, by rw [he, drop_elt hb2, readGo, if_pos hb3], by omega⟩ | exact ⟨hb2, by rw [he, drop_elt hb2, readGo, if_neg hb3, if_pos hb4], by simp; omega⟩
            case env1002 => exact (Env.le_consE rfl (by first | rfl | (congr 1; done)) (Env.le_consE rfl (by first | rfl | (congr 1; done)) Env.le_nil))
      · try simp only [decide_eq_true_eq, decide_eq_false_iff_not, Bool.not_eq_true', Bool.not_eq_false', Bool.and_eq_true, Bool.or_eq_true, Bool.and_eq_false_iff, Bool.or_eq_false_iff, beq_iff_eq, bne_iff_ne, bne_eq_false_iff_eq, beq_eq_false_iff_ne, ne_eq, Int.not_lt, Int.not_le, Int.ofNat_lt, Int.ofNat_le] at hb2
        refine wp_exit ?_
        refine then_x ?_
        refine then_x ?_
        refine block_hit ?_
        refine then_n ?_
        refine wp_seq ?_
        refine St.region ?_
        refine hs.op rfl rfl rfl (ok_move (.t rfl)) fun I a w hs => ?_
        refine hs.op rfl rfl rfl (ok_assign (.t rfl)) fun I a w hs => ?_
        refine hs.op rfl rfl rfl (ok_assign .c) fun I a w hs => ?_
        refine wpList_nil ?_
        refine then_n ?_
        refine wp_ret ?_
        have e9 : readAll s = (out, 0) := by rw [he, List.drop_eq_nil_of_le (by omega)]; rfl
        exact hs.retO (l := out) 0 rfl rfl rfl rfl (by rw [e9]) (by rw [e9])


/-- What is marked, from a number on. -/
def markEv (k : Int) : Ev := ⟨k, k + 1, k + 1 + 1, k + 1 + 1 + 1, k + 1 + 1 + 1 + 1, k + 1 + 1 + 1 + 1 + 1, k + 1 + 1 + 1 + 1 + 1 + 1, k + 1 + 1 + 1 + 1 + 1 + 1 + 1, k + 1 + 1 + 1 + 1 + 1 + 1 + 1 + 1, k + 1 + 1 + 1 + 1 + 1 + 1 + 1 + 1 + 1, k + 1 + 1 + 1 + 1 + 1 + 1 + 1 + 1 + 1 + 1⟩
def marks (n : Nat) : List Ev := (List.range n).map fun i : Nat => markEv (1 + 11 * (i : Int))
theorem marks_len (n : Nat) : (marks n).length = n := by simp [marks]
theorem elt_marks {n k : Nat} (h : k < (marks n).length) : elt (marks n) k = markEv (1 + 11 * (k : Int)) := by
  rw [marks_len] at h
  simp [elt, marks, List.getD_eq_getElem?_getD, h]

set_option maxHeartbeats 4000000 in
theorem c_laws_heldNeckEventS (n : Nat) (hn : n ≤ 1048577) :
    Fn Tryd.prog 13 [evsAV (marks n), AV.int 1] (AV.int (1 + 11 * n)) := by
  refine Fn.intro 112 Tryd.func13 rfl Tryd.ntmps13 rfl (by kernel_rfl) (fun W I a hs => ?_)
  have hle : (marks n).length ≤ 1048577 := by rw [marks_len]; exact hn
  refine wp_seq ?_
  refine St.region ?_
  refine hs.op rfl rfl rfl (ok_assign .c) fun I a w hs => ?_
  refine wpList_nil ?_
  refine then_n ?_
  refine wp_seq ?_
  refine wp_seq ?_
  refine St.region ?_
  refine hs.op rfl rfl rfl (ok_assign .c) fun I a w hs => ?_
  refine wpList_nil ?_
  refine then_n ?_
  refine wp_block ?_
  refine St.loopS (σ := Nat) (1 :: 4 :: 5 :: 6 :: 7 :: 8 :: 9 :: 10 :: 11 :: 12 :: 13 :: 14 :: 15 :: 16 :: 17 :: 18 :: 19 :: 20 :: 21 :: 22 :: 23 :: 24 :: 25 :: 26 :: 27 :: 28 :: 29 :: 30 :: 31 :: 32 :: 33 :: 34 :: 35 :: 36 :: 37 :: 38 :: 39 :: 40 :: 41 :: 42 :: 43 :: 44 :: 45 :: 46 :: 47 :: 48 :: 49 :: 50 :: 51 :: 52 :: 53 :: 54 :: 55 :: 56 :: 57 :: 58 :: 59 :: 60 :: 61 :: 62 :: 63 :: 64 :: 65 :: 66 :: 67 :: 68 :: 69 :: 70 :: 71 :: 72 :: 73 :: 74 :: 75 :: 76 :: 77 :: 78 :: 79 :: 80 :: 81 :: 82 :: 83 :: 84 :: 85 :: 86 :: 87 :: 88 :: 89 :: 90 :: 91 :: 92 :: 93 :: 94 :: 95 :: 96 :: 97 :: 98 :: 99 :: 100 :: 101 :: 102 :: 103 :: 104 :: 105 :: 106 :: 107 :: 108 :: 109 :: 110 :: []) ⟨fun k => [(5, AV.int k), (1, AV.int (1 + 11 * (k : Int)))], fun k => [], fun k => k ≤ (marks n).length⟩ (fun k => (marks n).length - k) 0 hs rfl ?ok1 ?env1 ?round1
  case ok1 => exact Nat.zero_le _
  case env1 => exact (Env.le_consE rfl (by rfl) (Env.le_consE rfl (by rfl) Env.le_nil))
  case round1 =>
    rintro k I a w hok hs
    have hk : k ≤ (marks n).length := hok
    refine wp_seq ?_
    refine wp_seq ?_
    refine St.region ?_
    refine hs.op rfl rfl rfl (ok_move (.t rfl)) fun I a w hs => ?_
    refine hs.op rfl rfl rfl (ok_move (.t rfl)) fun I a w hs => ?_
    refine hs.op rfl rfl rfl ((by first | exact ok_lenM un25 (.t rfl) | exact ok_len un25 (.t rfl) | exact ok_lenV un25 (.t rfl))) fun I a w hs => ?_
    refine hs.op rfl rfl rfl (ok_lss (.t rfl) (.t rfl)) fun I a w hs => ?_
    refine wpList_nil ?_
    refine then_n ?_
    refine hs.cond (.t rfl) (fun hb1 => ?_) (fun hb1 => ?_)
    · try simp only [decide_eq_true_eq, decide_eq_false_iff_not, Bool.not_eq_true', Bool.not_eq_false', Bool.and_eq_true, Bool.or_eq_true, Bool.and_eq_false_iff, Bool.or_eq_false_iff, beq_iff_eq, bne_iff_ne, bne_eq_false_iff_eq, beq_eq_false_iff_ne, ne_eq, Int.not_lt, Int.not_le, Int.ofNat_lt, Int.ofNat_le] at hb1
      refine wp_skip ?_
      refine then_n ?_
      refine wp_seq ?_
      refine wp_block ?_
      refine wp_seq ?_
      refine wp_seq ?_
      refine St.region ?_
      refine hs.op rfl rfl rfl (ok_move (.t rfl)) fun I a w hs => ?_
      refine hs.op rfl rfl rfl (ok_move (.t rfl)) fun I a w hs => ?_
      refine hs.op rfl rfl rfl ((by first | exact ok_idxN un25 ty35 (.t rfl) (.t rfl) (fun _ => by exact hb1) | exact ok_idxM un25 ty35 (.t rfl) (.t rfl) (fun _ => by exact hb1) | exact ok_idx un25 ty35 (.t rfl) (.t rfl) (fun _ => by exact hb1))) fun I a w hs => ?_
      refine hs.op rfl rfl rfl (ok_fieldP fd35_0 rfl (.t rfl)) fun I a w hs => ?_
      refine hs.op rfl rfl rfl (ok_load1 ty3 (.t rfl)) fun I a w hs => ?_
      refine hs.op rfl rfl rfl (ok_move (.t rfl)) fun I a w hs => ?_
      refine hs.op rfl rfl rfl (ok_nei (.t rfl) (.t rfl)) fun I a w hs => ?_
      refine wpList_nil ?_
      refine then_n ?_
      refine hs.cond (.t rfl) (fun hb2 => ?_) (fun hb2 => ?_)
      · exfalso; rw [elt_marks hb1] at hb2; simp [markEv] at hb2
        skip
      · skip
        refine wp_skip ?_
        refine then_n ?_
        refine wp_seq ?_
        refine St.region ?_
        refine hs.op rfl rfl rfl (ok_move (.t rfl)) fun I a w hs => ?_
        refine hs.op rfl rfl rfl (ok_add (.t rfl) .c (fun _ => by rw [marks_len] at hle; simp only [marks_len] at hb1; omega)) fun I a w hs => ?_
        refine hs.op rfl rfl rfl (ok_assign (.t rfl)) fun I a w hs => ?_
        refine wpList_nil ?_
        refine then_n ?_
        refine wp_seq ?_
        refine wp_seq ?_
        refine St.region ?_
        refine hs.op rfl rfl rfl (ok_move (.t rfl)) fun I a w hs => ?_
        refine hs.op rfl rfl rfl (ok_move (.t rfl)) fun I a w hs => ?_
        refine hs.op rfl rfl rfl ((by first | exact ok_idxN un25 ty35 (.t rfl) (.t rfl) (fun _ => by exact hb1) | exact ok_idxM un25 ty35 (.t rfl) (.t rfl) (fun _ => by exact hb1) | exact ok_idx un25 ty35 (.t rfl) (.t rfl) (fun _ => by exact hb1))) fun I a w hs => ?_
        refine hs.op rfl rfl rfl (ok_fieldP fd35_1 rfl (.t rfl)) fun I a w hs => ?_
        refine hs.op rfl rfl rfl (ok_load1 ty3 (.t rfl)) fun I a w hs => ?_
        refine hs.op rfl rfl rfl (ok_move (.t rfl)) fun I a w hs => ?_
        refine hs.op rfl rfl rfl (ok_nei (.t rfl) (.t rfl)) fun I a w hs => ?_
        refine wpList_nil ?_
        refine then_n ?_
        refine hs.cond (.t rfl) (fun hb3 => ?_) (fun hb3 => ?_)
        · exfalso; rw [elt_marks hb1] at hb3; simp [markEv] at hb3
          skip
        · skip
          refine wp_skip ?_
          refine then_n ?_
          refine wp_seq ?_
          refine St.region ?_
          refine hs.op rfl rfl rfl (ok_move (.t rfl)) fun I a w hs => ?_
          refine hs.op rfl rfl rfl (ok_add (.t rfl) .c (fun _ => by rw [marks_len] at hle; simp only [marks_len] at hb1; omega)) fun I a w hs => ?_
          refine hs.op rfl rfl rfl (ok_assign (.t rfl)) fun I a w hs => ?_
          refine wpList_nil ?_
          refine then_n ?_
          refine wp_seq ?_
          refine wp_seq ?_
          refine St.region ?_
          refine hs.op rfl rfl rfl (ok_move (.t rfl)) fun I a w hs => ?_
          refine hs.op rfl rfl rfl (ok_move (.t rfl)) fun I a w hs => ?_
          refine hs.op rfl rfl rfl ((by first | exact ok_idxN un25 ty35 (.t rfl) (.t rfl) (fun _ => by exact hb1) | exact ok_idxM un25 ty35 (.t rfl) (.t rfl) (fun _ => by exact hb1) | exact ok_idx un25 ty35 (.t rfl) (.t rfl) (fun _ => by exact hb1))) fun I a w hs => ?_
          refine hs.op rfl rfl rfl (ok_fieldP fd35_2 rfl (.t rfl)) fun I a w hs => ?_
          refine hs.op rfl rfl rfl (ok_load1 ty3 (.t rfl)) fun I a w hs => ?_
          refine hs.op rfl rfl rfl (ok_move (.t rfl)) fun I a w hs => ?_
          refine hs.op rfl rfl rfl (ok_nei (.t rfl) (.t rfl)) fun I a w hs => ?_
          refine wpList_nil ?_
          refine then_n ?_
          refine hs.cond (.t rfl) (fun hb4 => ?_) (fun hb4 => ?_)
          · exfalso; rw [elt_marks hb1] at hb4; simp [markEv] at hb4
            skip
          · skip
            refine wp_skip ?_
            refine then_n ?_
            refine wp_seq ?_
            refine St.region ?_
            refine hs.op rfl rfl rfl (ok_move (.t rfl)) fun I a w hs => ?_
            refine hs.op rfl rfl rfl (ok_add (.t rfl) .c (fun _ => by rw [marks_len] at hle; simp only [marks_len] at hb1; omega)) fun I a w hs => ?_
            refine hs.op rfl rfl rfl (ok_assign (.t rfl)) fun I a w hs => ?_
            refine wpList_nil ?_
            refine then_n ?_
            refine wp_seq ?_
            refine wp_seq ?_
            refine St.region ?_
            refine hs.op rfl rfl rfl (ok_move (.t rfl)) fun I a w hs => ?_
            refine hs.op rfl rfl rfl (ok_move (.t rfl)) fun I a w hs => ?_
            refine hs.op rfl rfl rfl ((by first | exact ok_idxN un25 ty35 (.t rfl) (.t rfl) (fun _ => by exact hb1) | exact ok_idxM un25 ty35 (.t rfl) (.t rfl) (fun _ => by exact hb1) | exact ok_idx un25 ty35 (.t rfl) (.t rfl) (fun _ => by exact hb1))) fun I a w hs => ?_
            refine hs.op rfl rfl rfl (ok_fieldP fd35_3 rfl (.t rfl)) fun I a w hs => ?_
            refine hs.op rfl rfl rfl (ok_load1 ty3 (.t rfl)) fun I a w hs => ?_
            refine hs.op rfl rfl rfl (ok_move (.t rfl)) fun I a w hs => ?_
            refine hs.op rfl rfl rfl (ok_nei (.t rfl) (.t rfl)) fun I a w hs => ?_
            refine wpList_nil ?_
            refine then_n ?_
            refine hs.cond (.t rfl) (fun hb5 => ?_) (fun hb5 => ?_)
            · exfalso; rw [elt_marks hb1] at hb5; simp [markEv] at hb5
              skip
            · skip
              refine wp_skip ?_
              refine then_n ?_
              refine wp_seq ?_
              refine St.region ?_
              refine hs.op rfl rfl rfl (ok_move (.t rfl)) fun I a w hs => ?_
              refine hs.op rfl rfl rfl (ok_add (.t rfl) .c (fun _ => by rw [marks_len] at hle; simp only [marks_len] at hb1; omega)) fun I a w hs => ?_
              refine hs.op rfl rfl rfl (ok_assign (.t rfl)) fun I a w hs => ?_
              refine wpList_nil ?_
              refine then_n ?_
              refine wp_seq ?_
              refine wp_seq ?_
              refine St.region ?_
              refine hs.op rfl rfl rfl (ok_move (.t rfl)) fun I a w hs => ?_
              refine hs.op rfl rfl rfl (ok_move (.t rfl)) fun I a w hs => ?_
              refine hs.op rfl rfl rfl ((by first | exact ok_idxN un25 ty35 (.t rfl) (.t rfl) (fun _ => by exact hb1) | exact ok_idxM un25 ty35 (.t rfl) (.t rfl) (fun _ => by exact hb1) | exact ok_idx un25 ty35 (.t rfl) (.t rfl) (fun _ => by exact hb1))) fun I a w hs => ?_
              refine hs.op rfl rfl rfl (ok_fieldP fd35_4 rfl (.t rfl)) fun I a w hs => ?_
              refine hs.op rfl rfl rfl (ok_load1 ty3 (.t rfl)) fun I a w hs => ?_
              refine hs.op rfl rfl rfl (ok_move (.t rfl)) fun I a w hs => ?_
              refine hs.op rfl rfl rfl (ok_nei (.t rfl) (.t rfl)) fun I a w hs => ?_
              refine wpList_nil ?_
              refine then_n ?_
              refine hs.cond (.t rfl) (fun hb6 => ?_) (fun hb6 => ?_)
              · exfalso; rw [elt_marks hb1] at hb6; simp [markEv] at hb6
                skip
              · skip
                refine wp_skip ?_
                refine then_n ?_
                refine wp_seq ?_
                refine St.region ?_
                refine hs.op rfl rfl rfl (ok_move (.t rfl)) fun I a w hs => ?_
                refine hs.op rfl rfl rfl (ok_add (.t rfl) .c (fun _ => by rw [marks_len] at hle; simp only [marks_len] at hb1; omega)) fun I a w hs => ?_
                refine hs.op rfl rfl rfl (ok_assign (.t rfl)) fun I a w hs => ?_
                refine wpList_nil ?_
                refine then_n ?_
                refine wp_seq ?_
                refine wp_seq ?_
                refine St.region ?_
                refine hs.op rfl rfl rfl (ok_move (.t rfl)) fun I a w hs => ?_
                refine hs.op rfl rfl rfl (ok_move (.t rfl)) fun I a w hs => ?_
                refine hs.op rfl rfl rfl ((by first | exact ok_idxN un25 ty35 (.t rfl) (.t rfl) (fun _ => by exact hb1) | exact ok_idxM un25 ty35 (.t rfl) (.t rfl) (fun _ => by exact hb1) | exact ok_idx un25 ty35 (.t rfl) (.t rfl) (fun _ => by exact hb1))) fun I a w hs => ?_
                refine hs.op rfl rfl rfl (ok_fieldP fd35_5 rfl (.t rfl)) fun I a w hs => ?_
                refine hs.op rfl rfl rfl (ok_load1 ty3 (.t rfl)) fun I a w hs => ?_
                refine hs.op rfl rfl rfl (ok_move (.t rfl)) fun I a w hs => ?_
                refine hs.op rfl rfl rfl (ok_nei (.t rfl) (.t rfl)) fun I a w hs => ?_
                refine wpList_nil ?_
                refine then_n ?_
                refine hs.cond (.t rfl) (fun hb7 => ?_) (fun hb7 => ?_)
                · exfalso; rw [elt_marks hb1] at hb7; simp [markEv] at hb7
                  skip
                · skip
                  refine wp_skip ?_
                  refine then_n ?_
                  refine wp_seq ?_
                  refine St.region ?_
                  refine hs.op rfl rfl rfl (ok_move (.t rfl)) fun I a w hs => ?_
                  refine hs.op rfl rfl rfl (ok_add (.t rfl) .c (fun _ => by rw [marks_len] at hle; simp only [marks_len] at hb1; omega)) fun I a w hs => ?_
                  refine hs.op rfl rfl rfl (ok_assign (.t rfl)) fun I a w hs => ?_
                  refine wpList_nil ?_
                  refine then_n ?_
                  refine wp_seq ?_
                  refine wp_seq ?_
                  refine St.region ?_
                  refine hs.op rfl rfl rfl (ok_move (.t rfl)) fun I a w hs => ?_
                  refine hs.op rfl rfl rfl (ok_move (.t rfl)) fun I a w hs => ?_
                  refine hs.op rfl rfl rfl ((by first | exact ok_idxN un25 ty35 (.t rfl) (.t rfl) (fun _ => by exact hb1) | exact ok_idxM un25 ty35 (.t rfl) (.t rfl) (fun _ => by exact hb1) | exact ok_idx un25 ty35 (.t rfl) (.t rfl) (fun _ => by exact hb1))) fun I a w hs => ?_
                  refine hs.op rfl rfl rfl (ok_fieldP fd35_6 rfl (.t rfl)) fun I a w hs => ?_
                  refine hs.op rfl rfl rfl (ok_load1 ty3 (.t rfl)) fun I a w hs => ?_
                  refine hs.op rfl rfl rfl (ok_move (.t rfl)) fun I a w hs => ?_
                  refine hs.op rfl rfl rfl (ok_nei (.t rfl) (.t rfl)) fun I a w hs => ?_
                  refine wpList_nil ?_
                  refine then_n ?_
                  refine hs.cond (.t rfl) (fun hb8 => ?_) (fun hb8 => ?_)
                  · exfalso; rw [elt_marks hb1] at hb8; simp [markEv] at hb8
                    skip
                  · skip
                    refine wp_skip ?_
                    refine then_n ?_
                    refine wp_seq ?_
                    refine St.region ?_
                    refine hs.op rfl rfl rfl (ok_move (.t rfl)) fun I a w hs => ?_
                    refine hs.op rfl rfl rfl (ok_add (.t rfl) .c (fun _ => by rw [marks_len] at hle; simp only [marks_len] at hb1; omega)) fun I a w hs => ?_
                    refine hs.op rfl rfl rfl (ok_assign (.t rfl)) fun I a w hs => ?_
                    refine wpList_nil ?_
                    refine then_n ?_
                    refine wp_seq ?_
                    refine wp_seq ?_
                    refine St.region ?_
                    refine hs.op rfl rfl rfl (ok_move (.t rfl)) fun I a w hs => ?_
                    refine hs.op rfl rfl rfl (ok_move (.t rfl)) fun I a w hs => ?_
                    refine hs.op rfl rfl rfl ((by first | exact ok_idxN un25 ty35 (.t rfl) (.t rfl) (fun _ => by exact hb1) | exact ok_idxM un25 ty35 (.t rfl) (.t rfl) (fun _ => by exact hb1) | exact ok_idx un25 ty35 (.t rfl) (.t rfl) (fun _ => by exact hb1))) fun I a w hs => ?_
                    refine hs.op rfl rfl rfl (ok_fieldP fd35_7 rfl (.t rfl)) fun I a w hs => ?_
                    refine hs.op rfl rfl rfl (ok_load1 ty3 (.t rfl)) fun I a w hs => ?_
                    refine hs.op rfl rfl rfl (ok_move (.t rfl)) fun I a w hs => ?_
                    refine hs.op rfl rfl rfl (ok_nei (.t rfl) (.t rfl)) fun I a w hs => ?_
                    refine wpList_nil ?_
                    refine then_n ?_
                    refine hs.cond (.t rfl) (fun hb9 => ?_) (fun hb9 => ?_)
                    · exfalso; rw [elt_marks hb1] at hb9; simp [markEv] at hb9
                      skip
                    · skip
                      refine wp_skip ?_
                      refine then_n ?_
                      refine wp_seq ?_
                      refine St.region ?_
                      refine hs.op rfl rfl rfl (ok_move (.t rfl)) fun I a w hs => ?_
                      refine hs.op rfl rfl rfl (ok_add (.t rfl) .c (fun _ => by rw [marks_len] at hle; simp only [marks_len] at hb1; omega)) fun I a w hs => ?_
                      refine hs.op rfl rfl rfl (ok_assign (.t rfl)) fun I a w hs => ?_
                      refine wpList_nil ?_
                      refine then_n ?_
                      refine wp_seq ?_
                      refine wp_seq ?_
                      refine St.region ?_
                      refine hs.op rfl rfl rfl (ok_move (.t rfl)) fun I a w hs => ?_
                      refine hs.op rfl rfl rfl (ok_move (.t rfl)) fun I a w hs => ?_
                      refine hs.op rfl rfl rfl ((by first | exact ok_idxN un25 ty35 (.t rfl) (.t rfl) (fun _ => by exact hb1) | exact ok_idxM un25 ty35 (.t rfl) (.t rfl) (fun _ => by exact hb1) | exact ok_idx un25 ty35 (.t rfl) (.t rfl) (fun _ => by exact hb1))) fun I a w hs => ?_
                      refine hs.op rfl rfl rfl (ok_fieldP fd35_8 rfl (.t rfl)) fun I a w hs => ?_
                      refine hs.op rfl rfl rfl (ok_load1 ty3 (.t rfl)) fun I a w hs => ?_
                      refine hs.op rfl rfl rfl (ok_move (.t rfl)) fun I a w hs => ?_
                      refine hs.op rfl rfl rfl (ok_nei (.t rfl) (.t rfl)) fun I a w hs => ?_
                      refine wpList_nil ?_
                      refine then_n ?_
                      refine hs.cond (.t rfl) (fun hb10 => ?_) (fun hb10 => ?_)
                      · exfalso; rw [elt_marks hb1] at hb10; simp [markEv] at hb10
                        skip
                      · skip
                        refine wp_skip ?_
                        refine then_n ?_
                        refine wp_seq ?_
                        refine St.region ?_
                        refine hs.op rfl rfl rfl (ok_move (.t rfl)) fun I a w hs => ?_
                        refine hs.op rfl rfl rfl (ok_add (.t rfl) .c (fun _ => by rw [marks_len] at hle; simp only [marks_len] at hb1; omega)) fun I a w hs => ?_
                        refine hs.op rfl rfl rfl (ok_assign (.t rfl)) fun I a w hs => ?_
                        refine wpList_nil ?_
                        refine then_n ?_
                        refine wp_seq ?_
                        refine wp_seq ?_
                        refine St.region ?_
                        refine hs.op rfl rfl rfl (ok_move (.t rfl)) fun I a w hs => ?_
                        refine hs.op rfl rfl rfl (ok_move (.t rfl)) fun I a w hs => ?_
                        refine hs.op rfl rfl rfl ((by first | exact ok_idxN un25 ty35 (.t rfl) (.t rfl) (fun _ => by exact hb1) | exact ok_idxM un25 ty35 (.t rfl) (.t rfl) (fun _ => by exact hb1) | exact ok_idx un25 ty35 (.t rfl) (.t rfl) (fun _ => by exact hb1))) fun I a w hs => ?_
                        refine hs.op rfl rfl rfl (ok_fieldP fd35_9 rfl (.t rfl)) fun I a w hs => ?_
                        refine hs.op rfl rfl rfl (ok_load1 ty3 (.t rfl)) fun I a w hs => ?_
                        refine hs.op rfl rfl rfl (ok_move (.t rfl)) fun I a w hs => ?_
                        refine hs.op rfl rfl rfl (ok_nei (.t rfl) (.t rfl)) fun I a w hs => ?_
                        refine wpList_nil ?_
                        refine then_n ?_
                        refine hs.cond (.t rfl) (fun hb11 => ?_) (fun hb11 => ?_)
                        · exfalso; rw [elt_marks hb1] at hb11; simp [markEv] at hb11
                          skip
                        · skip
                          refine wp_skip ?_
                          refine then_n ?_
                          refine wp_seq ?_
                          refine St.region ?_
                          refine hs.op rfl rfl rfl (ok_move (.t rfl)) fun I a w hs => ?_
                          refine hs.op rfl rfl rfl (ok_add (.t rfl) .c (fun _ => by rw [marks_len] at hle; simp only [marks_len] at hb1; omega)) fun I a w hs => ?_
                          refine hs.op rfl rfl rfl (ok_assign (.t rfl)) fun I a w hs => ?_
                          refine wpList_nil ?_
                          refine then_n ?_
                          refine wp_seq ?_
                          refine wp_seq ?_
                          refine St.region ?_
                          refine hs.op rfl rfl rfl (ok_move (.t rfl)) fun I a w hs => ?_
                          refine hs.op rfl rfl rfl (ok_move (.t rfl)) fun I a w hs => ?_
                          refine hs.op rfl rfl rfl ((by first | exact ok_idxN un25 ty35 (.t rfl) (.t rfl) (fun _ => by exact hb1) | exact ok_idxM un25 ty35 (.t rfl) (.t rfl) (fun _ => by exact hb1) | exact ok_idx un25 ty35 (.t rfl) (.t rfl) (fun _ => by exact hb1))) fun I a w hs => ?_
                          refine hs.op rfl rfl rfl (ok_fieldP fd35_10 rfl (.t rfl)) fun I a w hs => ?_
                          refine hs.op rfl rfl rfl (ok_load1 ty3 (.t rfl)) fun I a w hs => ?_
                          refine hs.op rfl rfl rfl (ok_move (.t rfl)) fun I a w hs => ?_
                          refine hs.op rfl rfl rfl (ok_nei (.t rfl) (.t rfl)) fun I a w hs => ?_
                          refine wpList_nil ?_
                          refine then_n ?_
                          refine hs.cond (.t rfl) (fun hb12 => ?_) (fun hb12 => ?_)
                          · exfalso; rw [elt_marks hb1] at hb12; simp [markEv] at hb12
                            skip
                          · skip
                            refine wp_skip ?_
                            refine then_n ?_
                            refine St.region ?_
                            refine hs.op rfl rfl rfl (ok_move (.t rfl)) fun I a w hs => ?_
                            refine hs.op rfl rfl rfl (ok_add (.t rfl) .c (fun _ => by rw [marks_len] at hle; simp only [marks_len] at hb1; omega)) fun I a w hs => ?_
                            refine hs.op rfl rfl rfl (ok_assign (.t rfl)) fun I a w hs => ?_
                            refine wpList_nil ?_
                            refine block_n ?_
                            refine then_n ?_
                            refine St.region ?_
                            refine hs.op rfl rfl rfl (ok_move (.t rfl)) fun I a w hs => ?_
                            refine hs.op rfl rfl rfl (ok_add (.t rfl) .c (fun _ => by rw [marks_len] at hle; simp only [marks_len] at hb1; omega)) fun I a w hs => ?_
                            refine hs.op rfl rfl rfl (ok_assign (.t rfl)) fun I a w hs => ?_
                            refine wpList_nil ?_
                            refine then_n ?_
                            refine hs.again (k + 1) ?mu1 ?ok1001 (by rfl) ?env1001 (by repeat (first | exact Env.le_rfl | refine Env.le_push rfl ?_))
                            case mu1 => omega
                            case ok1001 => exact hb1
                            case env1001 => exact (Env.le_consE rfl (by rfl) (Env.le_consE rfl (by exact congrArg AV.int (by push_cast; omega)) Env.le_nil))
    · try simp only [decide_eq_true_eq, decide_eq_false_iff_not, Bool.not_eq_true', Bool.not_eq_false', Bool.and_eq_true, Bool.or_eq_true, Bool.and_eq_false_iff, Bool.or_eq_false_iff, beq_iff_eq, bne_iff_ne, bne_eq_false_iff_eq, beq_eq_false_iff_ne, ne_eq, Int.not_lt, Int.not_le, Int.ofNat_lt, Int.ofNat_le] at hb1
      refine wp_exit ?_
      refine then_x ?_
      refine then_x ?_
      refine block_hit ?_
      refine then_n ?_
      refine wp_seq ?_
      refine St.region ?_
      refine hs.op rfl rfl rfl (ok_move (.t rfl)) fun I a w hs => ?_
      refine hs.op rfl rfl rfl (ok_assign (.t rfl)) fun I a w hs => ?_
      refine wpList_nil ?_
      refine then_n ?_
      refine wp_ret ?_
      refine hs.ret rfl (.cons (.t rfl) ResL.nil) ?_
      exact ret_int (by rw [marks_len] at *; omega)

end Go.Proofs.YtblcocjbnjfhkaaDoor
