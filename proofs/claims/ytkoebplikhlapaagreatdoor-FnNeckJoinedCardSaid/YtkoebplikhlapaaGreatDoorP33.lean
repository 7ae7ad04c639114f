/- Part 33: rules of the proofs, contracts of functions, plain facts. -/
import Derived.Test.YtkoebplikhlapaaGreatDoorP32
set_option linter.unusedVariables false
set_option linter.unusedSimpArgs false
set_option maxRecDepth 100000
namespace Go.Proofs.YtkoebplikhlapaaGreatDoor
open Go Go.RowKit
def numK (l : List Call) (client : Int) : Nat → Int
  | 0 => 0
  | k + 1 => if (elt l k).client = client then (elt l k).num else numK l client k
theorem numK_all (l : List Call) (client : Int) {k : Nat} (hk : k ≤ l.length) (h : l.length ≤ k) : numK l client k = lastNum l client := by
  have key : ∀ k, k ≤ l.length → numK l client k = (l.take k).foldl (fun n q => if q.client = client then q.num else n) 0 := by
    intro k
    induction k with
    | zero => intro _; simp [numK]
    | succ k ih => intro h; rw [take_elt (by omega), List.foldl_append]; show (if _ then _ else numK l client k) = _; rw [ih (by omega)]; rfl
  unfold lastNum
  rw [key k hk, List.take_of_length_le h]
theorem numK_yes {l : List Call} {client : Int} {k : Nat} (h : (elt l k).client = client) : (elt l k).num = numK l client (k + 1) := by show _ = (if _ then _ else _); rw [if_pos h]
theorem numK_no {l : List Call} {client : Int} {k : Nat} (h : ¬ (elt l k).client = client) : numK l client k = numK l client (k + 1) := by show _ = (if _ then _ else _); rw [if_neg h]
theorem begin_test (w : Neck) (e : Ev) : (!inB e.client 0 1 || decide (0 ≤ nowI w.calls e.client)) = !(clientB e.client && decide (nowI w.calls e.client < 0)) := by
  have h : decide (0 ≤ nowI w.calls e.client) = !decide (nowI w.calls e.client < 0) := by rw [Bool.eq_iff_iff]; simp
  rw [h]; unfold clientB; simp
theorem beginN_0 {w : Neck} {e : Ev} (h : (clientB e.client && decide (nowI w.calls e.client < 0)) = false) : beginN w e = (w, false) := by unfold beginN; rw [h]; rfl
theorem beginN_1 {w : Neck} {e : Ev} (h : (clientB e.client && decide (nowI w.calls e.client < 0)) = true) : beginN w e = ({ w with calls := w.calls ++ [newC w e] }, callsOk (w.calls ++ [newC w e]) w.time) := by unfold beginN; rw [h]; rfl
theorem NeckGood.lens {w : Neck} (h : NeckGood w) : w.calls.length ≤ 20 ∧ ∀ q ∈ w.calls, q.got.length ≤ 3 := ⟨(callsOk_iff.1 h.calls).1, fun q hq => by
  obtain ⟨k, hk, rfl⟩ := mem_elt hq
  exact (h.call hk).lens.2.2.2.2.1⟩
theorem NeckGood.seenLen {w : Neck} (h : NeckGood w) {i : Nat} (hi : i < 2) : (elt w.seen i).length ≤ 6 := depsOk_len6 (h.saw _ (elt_mem (by rw [h.seen]; exact hi)))
set_option maxHeartbeats 4000000 in
theorem c_spec_l42Begins (x : Neck) (e : Ev) (hg : NeckGood x) (ht : x.time ≤ 1000000) :
    Fn Tryz.prog 90 [x.av, e.av] (AV.tup [(beginN x e).1.av, AV.bool (beginN x e).2]) := by
 refine Fn.intro 82 Tryz.func90 rfl Tryz.ntmps90 rfl (by kernel_rfl) (fun W I a hs => ?_)
 have hln := hg.lens
 have hsn := hg.seen
 have ht0 := hg.time
 refine sr <| hs.box rfl .tt fun b2 I a w hs => hs.o .bp fun hs => hs.alloc rfl ty41 zc41 fun b4 I a w hs => hs.sc fun hs => nn <| wp_seq <| sr <| hs.o .fp fun hs => hs.o .l1 fun hs => ?_
 refine hs.o (.cl (c_spec_l6In ..)) fun hs => ?_
 refine hs.o .nt fun hs => hs.m fun hs => hs.q .F .fv fun hs => ?_
 refine hs.q .F (.lbx 0 .ag) fun hs => ?_
 refine hs.q .F .fp fun hs => ?_
 refine hs.q .F (.lx .ag) fun hs => ?_
 refine hs.q .F (.cl (c_spec_l42Now ..)) fun hs => ?_
 refine hs.q .F (ok_geq .ag .c) fun hs => ?_
 refine hs.o .or fun hs => nn ?_
 refine hs.cd (fun hb1 => ?_) fun hb1 => ?_
 ·rw [begin_test] at hb1; replace hb1 := nt hb1
  refine sr <| hs.o (.ls 0) fun hs => ?_
  refine hs.sb 1 fun hs => ?_
  refine hs.sc fun hs => nn <| wp_ret <| then_r ?_
  refine hs.ret rfl (.cons (.s 1 ty41 rfl rfl (by first | rfl | assumption)) (.cons (.t rfl) ResL.nil)) ?_
  exact (by rw [beginN_0 hb1]; rfl)
 ·rw [begin_test] at hb1; replace hb1 := nf hb1; have hcb := hb1; simp only [clientB, inB, Bool.and_eq_true, decide_eq_true_eq] at hcb
  refine wp_skip <| then_n <| wp_seq ?_
  refine hs.drawA 18 (by kernel_rfl) (by kernel_rfl) (by kernel_rfl) ?_
  simp only [List.take_succ_cons, List.take_zero, List.drop_succ_cons, List.drop_zero]
  refine .o .fp <| .o .l1 <| .o .fp <| .o .l1 ?_
  refine .o .la ?_
  refine .o (.c1 (c_spec_l42Keys ..)) <| .o (ok_lit0 un87 ty165) <| .o .fv <| .o (.lb 0) <| .o .fp <| .o .l1 ?_
  refine .o .ix ?_
  refine .o .l1 ?_
  refine .o (ok_append0 un87 ty165 rfl .tt .r (fun _ => by have := hg.seenLen (i := e.client.toNat) (by omega); simp; omega)) ?_
  refine .o .fv <| .o (.lb 0) ?_
  refine .o (.bd zc118 (.k (.k (.k (.k (.k (.k Parts.nil))))))) ?_
  refine RunTA.alloc ty118 zc118 <| .nil ?_
  intro I a w hs
  obtain ⟨b6, hs⟩ := hs.openBox (d := 6) rfl
  refine hs.sb 2 fun hs => ?_
  refine nn ?_
  refine St.cut (σ := Int) (run 6 38 []) ⟨fun val => [], fun val => [Own.box b2 41 x.cells, Own.box b4 41 [AV.val (.int .i64 0), AV.rows 7 [], AV.rows 15 [], AV.rows 13 [], AV.rows 1 []], Own.box b6 118 ({ call0 with client := e.client, num := 1, kind := e.call, keys := keysE e, val := val, ctx := elt x.seen e.client.toNat, begin_ := x.time } : Call).cells], fun val => val = if e.call = 1 then e.val else 0⟩ hs ?cutA4 ?cutB4
  case cutA4 =>
   refine sr <| hs.o .fp fun hs => hs.o .l1 fun hs => hs.o .eqic fun hs => nn ?_
   refine hs.cd (fun hb2 => ?_) fun hb2 => ?_
   ·try simp only [B] at hb2
    refine St.region <| hs.o .fp fun hs => hs.o .l1 fun hs => hs.o .fv fun hs => ?_
    refine hs.s1 2 fun hs => ?_
    refine nn ?_
    exact hs.me e.val (by first | exact (if_pos hb2).symm | exact (if_neg hb2).symm)
   ·try simp only [B] at hb2
    refine wp_skip <| then_n ?_
    exact hs.me 0 (by first | exact (if_pos hb2).symm | exact (if_neg hb2).symm)
  case cutB4 =>
   rintro val I a w hok hs
   have hval : val = if e.call = 1 then e.val else 0 := hok
   subst hval
   refine wp_seq <| sr <| hs.sc fun hs => nn <| wp_block ?_
   refine St.lo (σ := Nat) (7 :: (run 24 44 [])) ⟨fun k => [(7, AV.int k)], fun k => [Own.box b2 41 x.cells, Own.box b4 41 [AV.val (.int .i64 0), AV.rows 7 [], AV.rows 15 [], AV.rows 13 [], AV.rows 1 []], Own.box b6 118 ({ call0 with client := e.client, num := numK x.calls e.client k + 1, kind := e.call, keys := keysE e, val := (if e.call = 1 then e.val else 0), ctx := elt x.seen e.client.toNat, begin_ := x.time } : Call).cells], fun k => k ≤ x.calls.length⟩ (fun k => x.calls.length - k) 0 hs ?ok1 ?round1
   case ok1 => exact Nat.zero_le _
   case round1 =>
    rintro k I a w hok hs
    have hk : k ≤ x.calls.length := hok
    change St _ _ [Own.box b2 41 x.cells, Own.box b4 41 [AV.val (.int .i64 0), AV.rows 7 [], AV.rows 15 [], AV.rows 13 [], AV.rows 1 []], Own.box b6 118 ({ call0 with client := e.client, num := numK x.calls e.client k + 1, kind := e.call, keys := keysE e, val := (if e.call = 1 then e.val else 0), ctx := elt x.seen e.client.toNat, begin_ := x.time } : Call).cells] _ _ _ at hs
    refine wp_seq <| sr <| hs.m fun hs => hs.o .fv fun hs => ?_
    refine hs.o (.lb 0) fun hs => ?_
    refine hs.o .ln fun hs => ?_
    refine hs.o .lss fun hs => nn ?_
    refine hs.cd (fun hb3 => ?_) fun hb3 => ?_
    ·try simp only [B] at hb3
     refine wp_skip <| then_n <| wp_seq <| wp_block <| wp_seq <| hs.dk <| .o .fv <| .o (.lb 0) <| .o .mv ?_
     refine .o .ix ?_
     refine .o .fp <| .o .l1 <| .o .fp <| .o .l1 <| .o .eqi <| .nil ?_
     intro I a w hs
     refine then_n ?_
     refine hs.cd (fun hb4 => ?_) fun hb4 => ?_
     ·try simp only [B] at hb4
      refine St.region <| hs.o .fv fun hs => hs.o (.lb 0) fun hs => hs.m fun hs => ?_
      refine hs.o .ix fun hs => ?_
      refine hs.o .fp fun hs => hs.o .l1 fun hs => ?_
      refine hs.o (ok_add .tt .c (fun _ => by have := (hg.call hb3).num; omega)) fun hs => ?_
      refine hs.o .fv fun hs => ?_
      refine hs.s1 2 fun hs => ?_
      refine wpList_nil <| block_n <| then_n <| St.region <| hs.m fun hs => ?_
      refine hs.o .ad fun hs => ?_
      refine hs.s fun hs => nn ?_
      rw [numK_yes hb4] at hs
      exact hs.ag (k + 1) (hb3)
     ·try simp only [B] at hb4
      refine wp_skip <| block_n <| then_n <| St.region <| hs.m fun hs => ?_
      refine hs.o .ad fun hs => ?_
      refine hs.s fun hs => nn ?_
      rw [numK_no hb4] at hs
      exact hs.ag (k + 1) (hb3)
    ·try simp only [B] at hb3
     refine wp_exit <| then_x <| then_x <| block_hit <| then_n <| wp_seq ?_
     rw [numK_all x.calls e.client hk (by omega)] at hs
     have hs := hs.ownGone
     refine hs.drawD [([], none), ([], none), ([0], none), ([3], some (3, [71])), ([2], none), ([], none), ([3], some (3, [])), ([], none), ([0], some (0, []))] (by kernel_rfl) (by kernel_rfl) rfl ?_
     refine .o (ok_lit0 un38 ty118) <| .o .fv ?_
     refine .r [0] (.lb 0) ?_
     refine RunD.appendOB 3 rfl rfl un38 ty118 rfl .tt .r (by simp; omega) ?_
     refine .r [2] (.ls 2) ?_
     refine .o (.li [(newC x e).cells] zo118 (.u .nil)) ?_
     refine RunD.appendN 3 rfl rfl un38 ty118 rfl .r (by simp; omega) ?_
     refine .o .fv ?_
     refine RunD.eff (x := AV.any) 0 (fun F W0 I0 I a w Q hs kk => hs.s1 0 fun hs => kk _ _ _ hs) ?_
     refine .nil ?_
     intro I a w hs
     rw [snocD] at hs
     refine then_n <| wp_seq ?_
     refine hs.drawT 6 (by kernel_rfl) (by kernel_rfl) (by kernel_rfl) ?_
     simp only [List.take_succ_cons, List.take_zero, List.drop_succ_cons, List.drop_zero]
     refine .o (.ls 0) <| .o .fv <| .o (.lb 0) <| .o .fv <| .o (.lb 0) ?_
     refine .o (ok_call (c_spec_l41CallsOk (x.calls ++ [newC x e]) x.time (by omega) (fun q hq => by rcases List.mem_append.1 hq with hq | hq; (have := hln.2 q hq; omega); (obtain rfl : q = newC x e := by simpa using hq); simp [newC, call0])) (args_cons .r (args_cons (.t rfl) args_nil))) ?_
     refine .nil ?_
     intro I a w hs
     refine hs.sb 1 fun hs => ?_
     refine hs.s fun hs => nn <| wp_ret ?_
     refine hs.ret rfl (.cons (.s 1 ty41 rfl rfl (by first | rfl | assumption)) (.cons (.t rfl) ResL.nil)) ?_
     exact (by rw [beginN_1 hb1]; rfl)
set_option maxHeartbeats 4000000 in
theorem c_spec_l42Answer (x : Neck) (m : Word) (hg : NeckGood x) (ht : x.time ≤ 1000000) (hto : inB m.to 10 11 = true) :
    Fn Tryz.prog 94 [x.av, m.av] ((answerN x m).av) := by
 refine Fn.intro 52 Tryz.func94 rfl Tryz.ntmps94 rfl (by kernel_rfl) (fun W I a hs => ?_)
 simp only [inB, Bool.and_eq_true, decide_eq_true_eq] at hto
 have hln := hg.lens
 have hsn := hg.seen
 have ht0 := hg.time
 refine sr <| hs.box rfl .tt fun b2 I a w hs => hs.o .bp fun hs => hs.alloc rfl ty41 zc41 fun b4 I a w hs => nn <| sr <| hs.o .fp fun hs => hs.o .l1 fun hs => ?_
 refine hs.o .su fun hs => ?_
 refine hs.s fun hs => nn <| sr <| hs.o .fv fun hs => ?_
 refine hs.o (.lb 0) fun hs => hs.m fun hs => ?_
 refine hs.o (.cl (c_spec_l42Now x.calls (m.to - 10))) fun hs => ?_
 refine hs.s fun hs => nn <| wp_seq <| sr <| hs.m fun hs => hs.o .lssc fun hs => nn ?_
 refine hs.cd (fun hb1 => ?_) fun hb1 => ?_
 ·simp only [B] at hb1
  refine sr <| hs.o (.ls 0) fun hs => ?_
  refine hs.sb 1 fun hs => ?_
  refine nn <| wp_ret <| then_r ?_
  refine hs.ret rfl (.cons (.s 1 ty41 rfl rfl (by first | rfl | assumption)) ResL.nil) ?_
  exact (by unfold answerN; dsimp only; rw [if_pos hb1]; rfl)
 ·simp only [B] at hb1; obtain ⟨h1, h2, h3⟩ := nowI_hit hb1; have hq := callHear_good (m := m) (hg.call h1); have hqe := hq.endRange (by omega); have hqb := hq.begin_
  refine wp_skip <| then_n <| wp_seq ?_
  refine hs.drawA 10 (by kernel_rfl) (by kernel_rfl) (by kernel_rfl) ?_
  simp only [List.take_succ_cons, List.take_zero, List.drop_succ_cons, List.drop_zero]
  refine .o .fv <| .o (.lb 0) <| .o .mv ?_
  refine .o .ix ?_
  refine .o .la ?_
  refine .o .la ?_
  refine .o .fv <| .o (.lb 0) <| .o (.c3 (c_spec_CallHear _ m x.time (hg.call h1) ht)) <| RunTA.alloc ty118 zc118 <| .nil ?_
  intro I a w hs
  obtain ⟨b7, hs⟩ := hs.openBox (d := 7) rfl
  refine hs.sb 2 fun hs => ?_
  obtain ⟨I, hs, hf⟩ := hs.freezeBox 2 rfl
  have hs := hs.upd (t := 7) rfl hf; clear hf
  refine nn <| sr ?_
  refine hs.lit0 rfl un38 ty118 (by decide) fun b27 I a w hs => ?_
  refine hs.o .fv fun hs => hs.o (.lb 0) fun hs => ?_
  refine hs.append 3 rfl un38 ty118 rfl .tt .r rfl (by simp; omega) fun v30 a w hs => ?_
  simp only [List.nil_append] at hs
  refine hs.o .fv fun hs => ?_
  try have ho30 := hs.oneRow 3 rfl
  refine hs.s1 0 fun hs => ?_
  refine nn <| wp_seq ?_
  obtain ⟨bk1, ck1, ek1⟩ := hs.rowBlock 3 rfl (by simp only [List.length_map]; omega)
  subst ek1
  refine St.region <| hs.o .fv fun hs => hs.o (.lb 0) fun hs => hs.m fun hs => ?_
  refine hs.o .la fun hs => ?_
  refine hs.o (ok_idxO un38 ty118 .tt .tt (fun _ => by simp only [List.length_map]; omega)) fun hs => ?_
  refine hs.storeRS 3 ty118 .tt .tt rfl (by exact map_get (by omega)) rfl rfl fun a w hs => ?_
  refine nn ?_
  refine St.cut (σ := List (List Dep)) (run 14 37 []) ⟨fun sn => [], fun sn => [Own.box b2 41 [AV.int x.time, serversAV x.servers, wordsAV x.radio, callsAV (x.calls.set (nowI x.calls (m.to - 10)).toNat (callHear (elt x.calls (nowI x.calls (m.to - 10)).toNat) m x.time)), seenAV sn], Own.box b4 41 [AV.val (.int .i64 0), AV.rows 7 [], AV.rows 15 [], AV.rows 13 [], AV.rows 1 []], Own.gone, Own.gone], fun sn => sn = if 0 < Call.end_ (callHear (elt x.calls (nowI x.calls (m.to - 10)).toNat) m x.time) then x.seen.set (m.to - 10).toNat (sawD (callHear (elt x.calls (nowI x.calls (m.to - 10)).toNat) m x.time)) else x.seen⟩ hs ?cutA8 ?cutB8
  case cutA8 =>
   refine wp_seq ?_
   have e9 : ∀ y, y = Call.cells (callHear (elt x.calls (nowI x.calls (m.to - 10)).toNat) m x.time) → (List.map Call.cells x.calls).set (nowI x.calls (m.to - 10)).toNat y = List.map Call.cells (x.calls.set (nowI x.calls (m.to - 10)).toNat (callHear (elt x.calls (nowI x.calls (m.to - 10)).toNat) m x.time)) := fun y hy => by rw [hy, List.map_set]
   rw [e9] at hs
   rotate_left
   ·rfl
   obtain ⟨I, hs, hf⟩ := hs.freezeRow 3 rfl
   have hs := hs.updBox (q := 3) 0 rfl rfl hf
   refine St.region <| hs.o .fp fun hs => hs.o .l1 fun hs => hs.o .gtrc fun hs => nn ?_
   refine hs.cd (fun hb2 => ?_) fun hb2 => ?_
   ·try simp only [B] at hb2
    refine sr ?_
    refine hs.lit0 rfl un39 ty87 (by decide) fun b40 I a w hs => ?_
    refine hs.o .fv fun hs => hs.o (.lb 0) fun hs => ?_
    refine hs.append 4 rfl un39 ty87 rfl .tt .r rfl (by simp; omega) fun v43 a w hs => ?_
    simp only [List.nil_append] at hs
    refine hs.o .fv fun hs => ?_
    try have ho43 := hs.oneRow 4 rfl
    refine hs.s1 0 fun hs => ?_
    refine nn ?_
    obtain ⟨bk2, ck2, ek2⟩ := hs.rowBlock 4 rfl (by simp only [List.length_map]; omega)
    subst ek2
    refine hs.drawT 6 (by kernel_rfl) (by kernel_rfl) (by kernel_rfl) ?_
    simp only [List.take_succ_cons, List.take_zero, List.drop_succ_cons, List.drop_zero]
    refine .o .fv <| .o (.lb 0) <| .o .mv ?_
    refine .o .la ?_
    refine .o (ok_call (c_spec_CallSaw (callHear (elt x.calls (nowI x.calls (m.to - 10)).toNat) m x.time) x.time (callOk_iff.2 hq) (by omega) (by omega) (by have := hq.lens.2.2.2.2.1; omega)) (args_cons (.t rfl) args_nil)) ?_
    refine .o (ok_idxO un39 ty87 .tt .tt (fun _ => by simp only [List.length_map]; omega)) ?_
    refine .nil ?_
    intro I a w hs
    refine hs.storeR1 (j := 0) 4 ty87 .tt .tt (by first | exact one_val rfl | exact one_rows | exact one_ptr | exact one_fn | assumption) rfl (by exact map_get (by omega)) rfl rfl fun a w hs => ?_
    refine wpList_nil ?_
    have e8 : ∀ y, y = depsCell (sawD (callHear (elt x.calls (nowI x.calls (m.to - 10)).toNat) m x.time)) → (List.map depsCell x.seen).set (m.to - 10).toNat y = List.map depsCell (x.seen.set (m.to - 10).toNat (sawD (callHear (elt x.calls (nowI x.calls (m.to - 10)).toNat) m x.time))) := fun y hy => by rw [hy, List.map_set]
    rw [e8] at hs
    rotate_left
    ·rfl
    obtain ⟨I, hs, hf⟩ := hs.freezeRow 4 rfl
    have hs := hs.updBox (q := 4) 0 rfl rfl hf
    refine then_n ?_
    have hs := hs.drop 4
    exact hs.me (x.seen.set (m.to - 10).toNat (sawD (callHear (elt x.calls (nowI x.calls (m.to - 10)).toNat) m x.time))) (by first | exact (if_pos hb2).symm | exact (if_neg (by omega)).symm)
   ·try simp only [B] at hb2
    refine wp_skip <| then_n ?_
    have hs := hs.drop 4
    exact hs.me x.seen (by first | exact (if_pos hb2).symm | exact (if_neg (by omega)).symm)
  case cutB8 =>
   rintro sn I a w hok hs
   have hsn2 : sn = if 0 < Call.end_ (callHear (elt x.calls (nowI x.calls (m.to - 10)).toNat) m x.time) then x.seen.set (m.to - 10).toNat (sawD (callHear (elt x.calls (nowI x.calls (m.to - 10)).toNat) m x.time)) else x.seen := hok
   refine sr <| hs.o (.ls 0) fun hs => ?_
   refine hs.sb 1 fun hs => ?_
   refine nn <| wp_ret ?_
   refine hs.ret rfl (.cons (.s 1 ty41 rfl rfl (by first | rfl | assumption)) ResL.nil) ?_
   unfold answerN; dsimp only; rw [if_neg (by omega)]
   split
   ·rename_i hh; rw [hsn2, if_pos hh]; rfl
   ·rename_i hh; rw [hsn2, if_neg hh]; rfl
theorem set_self {α : Type} [Inhabited α] {l : List α} {i : Nat} : l.set i (elt l i) = l := by
  apply List.ext_getElem?
  intro j
  rw [List.getElem?_set]
  split
  · rename_i h; subst h; split
    · rename_i h; simp [elt, h]
    · rename_i h; simp at h; simp [h]
  · rfl
theorem serverN_7 {w : Neck} {e : Ev} (h : e.kind = 7) : serverN w e = ({ w with servers := w.servers.set e.at_.toNat (riseS (elt w.servers e.at_.toNat)) }, !(elt w.servers e.at_.toNat).up) := by unfold serverN; rw [if_pos h]
theorem serverN_6 {w : Neck} {e : Ev} (h : e.kind = 6) : serverN w e = ({ w with servers := w.servers.set e.at_.toNat (fallS (elt w.servers e.at_.toNat)) }, (elt w.servers e.at_.toNat).up) := by unfold serverN; rw [if_neg (by omega), if_pos h]
theorem serverN_8 {w : Neck} {e : Ev} (h : e.kind = 8) : serverN w e = ({ w with radio := sendW w.radio (tendS (elt w.servers e.at_.toNat)) }, (elt w.servers e.at_.toNat).up) := by unfold serverN; rw [if_neg (by omega), if_neg (by omega), if_pos h]
theorem moveS_yes {s : Server} {slot : Int} (h : (moveS s slot).2.2 = true) : moveOk s slot = true := by unfold moveS at h; split at h; assumption; cases h
theorem moveS_no {s : Server} {slot : Int} (h : (moveS s slot).2.2 = false) : moveOk s slot = false := by unfold moveS at h; split at h; cases h; rename_i hh; simpa using hh
theorem moveS_1 {s : Server} {slot : Int} (h : moveOk s slot = true) : moveS s slot = (movedS s slot, bulkW (movedS s slot) slot, true) := by unfold moveS; rw [if_pos h]
theorem moveS_0 {s : Server} {slot : Int} (h : moveOk s slot = false) : moveS s slot = (s, word0, false) := by unfold moveS; rw [h]; rfl
theorem serverN_9 {w : Neck} {e : Ev} (h7 : ¬ e.kind = 7) (h6 : ¬ e.kind = 6) (h8 : ¬ e.kind = 8) (hm : (moveS (elt w.servers e.at_.toNat) e.slot).2.2 = true) : serverN w e = ({ w with servers := w.servers.set e.at_.toNat (moveS (elt w.servers e.at_.toNat) e.slot).1, radio := sendW w.radio [(moveS (elt w.servers e.at_.toNat) e.slot).2.1] }, (moveS (elt w.servers e.at_.toNat) e.slot).2.2) := by
  unfold serverN; rw [if_neg h7, if_neg h6, if_neg h8, if_pos (moveS_yes hm), moveS_1 (moveS_yes hm)]
theorem serverN_0 {w : Neck} {e : Ev} (h7 : ¬ e.kind = 7) (h6 : ¬ e.kind = 6) (h8 : ¬ e.kind = 8) (hm : (moveS (elt w.servers e.at_.toNat) e.slot).2.2 = false) : serverN w e = ({ w with servers := w.servers.set e.at_.toNat (moveS (elt w.servers e.at_.toNat) e.slot).1 }, (moveS (elt w.servers e.at_.toNat) e.slot).2.2) := by
  unfold serverN; rw [if_neg h7, if_neg h6, if_neg h8, if_neg (by rw [moveS_no hm]; simp), moveS_0 (moveS_no hm), set_self]
theorem clientN_1 {w : Neck} {e : Ev} (h : e.kind = 1) : clientN w e = ((beginN w e).1, (beginN w e).2) := by unfold clientN; rw [if_pos h]
theorem clientN_n {w : Neck} {e : Ev} (h : ¬ e.kind = 1) (hn : nowI w.calls e.client < 0) : clientN w e = (w, false) := by unfold clientN; rw [if_neg h]; dsimp only; rw [if_pos hn]
theorem clientN_3 {w : Neck} {e : Ev} (h : ¬ e.kind = 1) (hn : 0 ≤ nowI w.calls e.client) (h3 : e.kind = 3) : clientN w e = ({ w with calls := w.calls.set (nowI w.calls e.client).toNat { elt w.calls (nowI w.calls e.client).toNat with over := true } }, true) := by unfold clientN; rw [if_neg h]; dsimp only; rw [if_neg (by omega), if_pos h3]
theorem clientN_2 {w : Neck} {e : Ev} (h : ¬ e.kind = 1) (hn : 0 ≤ nowI w.calls e.client) (h3 : ¬ e.kind = 3) : clientN w e = ({ w with radio := sendW w.radio (callWords (elt w.calls (nowI w.calls e.client).toNat)) }, true) := by unfold clientN; rw [if_neg h]; dsimp only; rw [if_neg (by omega), if_neg h3]
set_option maxHeartbeats 16000000 in
theorem c_spec_l42Server (x : Neck) (e : Ev) (hg : NeckGood x) (ht : x.time ≤ 1000000) (hat : siteB e.at_ = true) :
    Fn Tryz.prog 77 [x.av, e.av] (AV.tup [(serverN x e).1.av, AV.bool (serverN x e).2]) := by
 refine Fn.intro 85 Tryz.func77 rfl Tryz.ntmps77 rfl (by kernel_rfl) (fun W I a hs => ?_)
 have hai := siteB_iff.1 hat
 have hrl := hg.radio
 have hsl := hg.servers
 have hsv := (hg.site e.at_.toNat (by omega)).2
 have hsok := serverOk_iff.2 hsv
 refine sr <| hs.box rfl .tt fun b2 I a w hs => hs.o .bp fun hs => hs.alloc rfl ty41 zc41 fun b4 I a w hs => hs.sc fun hs => nn <| sr <| hs.o .fv fun hs => hs.o (.lb 0) fun hs => hs.o .fp fun hs => hs.o .l1 fun hs => ?_
 refine hs.o .ix fun hs => ?_
 refine hs.o .la fun hs => ?_
 refine hs.alloc rfl ty89 zc89 fun b6 I a w hs => ?_
 refine hs.sb 2 fun hs => ?_
 obtain ⟨I, hs, hf⟩ := hs.freezeBox 2 rfl
 have hs := hs.upd (t := 6) rfl hf; clear hf
 refine nn <| sr ?_
 refine hs.lit0 rfl un36 ty89 (by decide) fun b17 I a w hs => ?_
 refine hs.o .fv fun hs => hs.o (.lb 0) fun hs => ?_
 refine hs.append 3 rfl un36 ty89 rfl .tt .r rfl (by simp; omega) fun v20 a w hs => ?_
 simp only [List.nil_append] at hs
 refine hs.o .fv fun hs => ?_
 try have ho20 := hs.oneRow 3 rfl
 refine hs.s1 0 fun hs => ?_
 refine nn <| sr ?_
 refine hs.lit0 rfl un37 ty135 (by decide) fun b22 I a w hs => ?_
 refine hs.o .fv fun hs => hs.o (.lb 0) fun hs => ?_
 refine hs.append 4 rfl un37 ty135 rfl .tt .r rfl (by simp; omega) fun v25 a w hs => ?_
 simp only [List.nil_append] at hs
 refine hs.s fun hs => nn <| wp_seq <| sr <| hs.o .fp fun hs => hs.o .l1 fun hs => nn <| wp_block <| sr <| hs.o .eqic fun hs => hs.s fun hs => nn ?_
 refine hs.cd (fun hb1 => ?_) fun hb1 => ?_
 ·try simp only [B] at hb1
  refine wp_seq ?_
  obtain ⟨bk1, ck1, ek1⟩ := hs.rowBlock 3 rfl (by simp only [List.length_map]; omega)
  subst ek1
  refine hs.drawT 7 (by kernel_rfl) (by kernel_rfl) (by kernel_rfl) ?_
  simp only [List.take_succ_cons, List.take_zero, List.drop_succ_cons, List.drop_zero]
  refine .o .fv <| .o (.lb 0) <| .o .fp <| .o .l1 ?_
  refine .o .la ?_
  refine .o (.c1 (c_spec_ServerRise (elt x.servers e.at_.toNat) hsok)) ?_
  refine .o (ok_idxO un36 ty89 .tt .tt (fun _ => by simp only [List.length_map]; omega)) ?_
  refine .nil ?_
  intro I a w hs
  refine hs.storeRS 3 ty89 .tt .tt rfl (by exact map_get (by omega)) rfl rfl fun a w hs => ?_
  refine nn <| wp_seq ?_
  have e9 : ∀ y, y = Server.cells (riseS (elt x.servers e.at_.toNat)) → (List.map Server.cells x.servers).set e.at_.toNat y = List.map Server.cells (x.servers.set e.at_.toNat (riseS (elt x.servers e.at_.toNat))) := fun y hy => by rw [hy, List.map_set]
  rw [e9] at hs
  rotate_left
  ·rfl
  obtain ⟨I, hs, hf⟩ := hs.freezeRow 3 rfl
  have hs := hs.updBox (q := 1) 0 rfl rfl hf
  refine hs.drawD [([0], none), ([], none), ([], none), ([], none), ([1], some (1, [])), ([], none)] (by kernel_rfl) (by kernel_rfl) rfl ?_
  refine .r [0] (.ls 0) ?_
  refine .o .fp <| .o .l1 <| .o .nt ?_
  refine RunD.eff (x := AV.any) 1 (fun F W0 I0 I a w Q hs kk => hs.sb 1 fun hs => kk _ _ _ hs) ?_
  refine .o .as <| .nil ?_
  intro I a w hs
  refine then_n <| wp_ret <| block_r <| then_r ?_
  refine hs.ret rfl (.cons (.s 1 ty41 rfl rfl (by first | rfl | assumption)) (.cons (.t rfl) ResL.nil)) ?_
  exact (by rw [serverN_7 hb1]; rfl)
 ·try simp only [B] at hb1
  refine sr <| hs.o .eqic fun hs => hs.s fun hs => nn ?_
  refine hs.cd (fun hb2 => ?_) fun hb2 => ?_
  ·try simp only [B] at hb2
   refine wp_seq ?_
   obtain ⟨bk1, ck1, ek1⟩ := hs.rowBlock 3 rfl (by simp only [List.length_map]; omega)
   subst ek1
   refine hs.drawT 7 (by kernel_rfl) (by kernel_rfl) (by kernel_rfl) ?_
   simp only [List.take_succ_cons, List.take_zero, List.drop_succ_cons, List.drop_zero]
   refine .o .fv <| .o (.lb 0) <| .o .fp <| .o .l1 ?_
   refine .o .la ?_
   refine .o (.c1 (c_spec_ServerFall (elt x.servers e.at_.toNat) hsok)) ?_
   refine .o (ok_idxO un36 ty89 .tt .tt (fun _ => by simp only [List.length_map]; omega)) ?_
   refine .nil ?_
   intro I a w hs
   refine hs.storeRS 3 ty89 .tt .tt rfl (by exact map_get (by omega)) rfl rfl fun a w hs => ?_
   refine nn <| wp_seq ?_
   have e9 : ∀ y, y = Server.cells (fallS (elt x.servers e.at_.toNat)) → (List.map Server.cells x.servers).set e.at_.toNat y = List.map Server.cells (x.servers.set e.at_.toNat (fallS (elt x.servers e.at_.toNat))) := fun y hy => by rw [hy, List.map_set]
   rw [e9] at hs
   rotate_left
   ·rfl
   obtain ⟨I, hs, hf⟩ := hs.freezeRow 3 rfl
   have hs := hs.updBox (q := 1) 0 rfl rfl hf
   refine hs.drawD [([0], none), ([], none), ([], none), ([1], some (1, [])), ([], none)] (by kernel_rfl) (by kernel_rfl) rfl ?_
   refine .r [0] (.ls 0) ?_
   refine .o .fp <| .o .l1 ?_
   refine RunD.eff (x := AV.any) 1 (fun F W0 I0 I a w Q hs kk => hs.sb 1 fun hs => kk _ _ _ hs) ?_
   refine .o .as <| .nil ?_
   intro I a w hs
   refine then_n <| wp_ret <| block_r <| then_r ?_
   refine hs.ret rfl (.cons (.s 1 ty41 rfl rfl (by first | rfl | assumption)) (.cons (.t rfl) ResL.nil)) ?_
   exact (by rw [serverN_6 hb2]; rfl)
  ·try simp only [B] at hb2
   refine sr <| hs.o .eqic fun hs => hs.s fun hs => nn ?_
   refine hs.cd (fun hb3 => ?_) fun hb3 => ?_
   ·try simp only [B] at hb3
    refine sr <| hs.m fun hs => ?_
    refine hs.o .la fun hs => ?_
    refine hs.o (.c1 (c_spec_ServerTend (elt x.servers e.at_.toNat) hsv)) fun hs => ?_
    refine hs.callM [4] (c_spec_l42Send v25 x.radio (tendS (elt x.servers e.at_.toNat)) hg.radio) (args_cons .r (args_cons .r args_nil)) rfl (by decide) rfl fun I a w hs => ?_
    change St _ _ [Own.box b2 41 [AV.int x.time, AV.val v20, wordsAV x.radio, callsAV x.calls, seenAV x.seen], Own.box b4 41 [AV.val (.int .i64 0), AV.rows 7 [], AV.rows 15 [], AV.rows 13 [], AV.rows 1 []], Own.gone, Own.row v20 89 7 (x.servers.map Server.cells), Own.gone] _ _ _ at hs
    refine hs.o .fv fun hs => ?_
    refine hs.s1 0 fun hs => ?_
    refine nn <| wp_seq ?_
    obtain ⟨I, hs, hf⟩ := hs.freezeRow 3 rfl
    have hs := hs.updBox (q := 1) 0 rfl rfl hf
    refine hs.drawD [([0], none), ([], none), ([], none), ([1], some (1, [])), ([], none)] (by kernel_rfl) (by kernel_rfl) rfl ?_
    refine .r [0] (.ls 0) ?_
    refine .o .fp <| .o .l1 ?_
    refine RunD.eff (x := AV.any) 1 (fun F W0 I0 I a w Q hs kk => hs.sb 1 fun hs => kk _ _ _ hs) ?_
    refine .o .as <| .nil ?_
    intro I a w hs
    refine then_n <| wp_ret <| block_r <| then_r ?_
    refine hs.ret rfl (.cons (.s 1 ty41 rfl rfl (by first | rfl | assumption)) (.cons (.t rfl) ResL.nil)) ?_
    exact (by rw [serverN_8 hb3]; rfl)
   ·try simp only [B] at hb3
    refine wp_skip <| block_n <| then_n <| sr ?_
    refine hs.o .la fun hs => ?_
    refine hs.o .fp fun hs => hs.o .l1 fun hs => hs.o (.c2 (c_spec_ServerMove (elt x.servers e.at_.toNat) e.slot hsv)) fun hs => hs.m fun hs => ?_
    refine hs.o .e fun hs => hs.o .e fun hs => hs.o .e fun hs => hs.alloc rfl ty89 zc89 fun b8 I a w hs => hs.alloc rfl ty135 zc135 fun b9 I a w hs => ?_
    refine hs.sb 5 fun hs => ?_
    obtain ⟨I, hs, hf⟩ := hs.freezeBox 5 rfl
    have hs := hs.upd (t := 8) rfl hf; clear hf
    refine hs.sb 6 fun hs => ?_
    obtain ⟨I, hs, hf⟩ := hs.freezeBox 6 rfl
    have hs := hs.upd (t := 9) rfl hf; clear hf
    refine hs.s fun hs => nn <| wp_seq ?_
    obtain ⟨bk1, ck1, ek1⟩ := hs.rowBlock 3 rfl (by simp only [List.length_map]; omega)
    subst ek1
    refine St.region <| hs.o .fv fun hs => hs.o (.lb 0) fun hs => hs.o .fp fun hs => hs.o .l1 fun hs => ?_
    refine hs.o .la fun hs => ?_
    refine hs.o (ok_idxO un36 ty89 .tt .tt (fun _ => by simp only [List.length_map]; omega)) fun hs => ?_
    refine hs.storeRS 3 ty89 .tt .tt rfl (by exact map_get (by omega)) rfl rfl fun a w hs => ?_
    refine nn <| wp_seq <| wp_seq ?_
    have e9 : ∀ y, y = Server.cells (moveS (elt x.servers e.at_.toNat) e.slot).1 → (List.map Server.cells x.servers).set e.at_.toNat y = List.map Server.cells (x.servers.set e.at_.toNat (moveS (elt x.servers e.at_.toNat) e.slot).1) := fun y hy => by rw [hy, List.map_set]
    rw [e9] at hs
    rotate_left
    ·rfl
    obtain ⟨I, hs, hf⟩ := hs.freezeRow 3 rfl
    have hs := hs.updBox (q := 1) 0 rfl rfl hf
    refine St.region <| hs.m fun hs => nn ?_
    refine hs.cd (fun hb4 => ?_) fun hb4 => ?_
    ·skip
     refine St.region <| hs.m fun hs => ?_
     refine hs.o .la fun hs => ?_
     refine hs.o (.li [(moveS (elt x.servers e.at_.toNat) e.slot).2.1.cells] zo135 (.u .nil)) fun hs => ?_
     refine hs.callM [4] (c_spec_l42Send v25 x.radio [(moveS (elt x.servers e.at_.toNat) e.slot).2.1] hg.radio) (args_cons .r (args_cons .r args_nil)) rfl (by decide) rfl fun I a w hs => ?_
     change St _ _ [Own.box b2 41 [AV.int x.time, serversAV (x.servers.set e.at_.toNat (moveS (elt x.servers e.at_.toNat) e.slot).1), wordsAV x.radio, callsAV x.calls, seenAV x.seen], Own.box b4 41 [AV.val (.int .i64 0), AV.rows 7 [], AV.rows 15 [], AV.rows 13 [], AV.rows 1 []], Own.gone, Own.gone, Own.gone, Own.gone, Own.gone] _ _ _ at hs
     refine hs.o .fv fun hs => ?_
     refine hs.s1 0 fun hs => ?_
     refine nn <| sr <| hs.o (.ls 0) fun hs => hs.m fun hs => ?_
     refine hs.sb 1 fun hs => ?_
     refine hs.s fun hs => nn <| wp_ret ?_
     refine hs.ret rfl (.cons (.s 1 ty41 rfl rfl (by first | rfl | assumption)) (.cons (.t rfl) ResL.nil)) ?_
     exact (by rw [serverN_9 hb1 hb2 hb3 hb4]; rfl)
    ·skip
     refine wp_skip <| then_n <| sr <| hs.o (.ls 0) fun hs => hs.m fun hs => ?_
     refine hs.sb 1 fun hs => ?_
     refine hs.s fun hs => nn <| wp_ret ?_
     refine hs.ret rfl (.cons (.s 1 ty41 rfl rfl (by first | rfl | assumption)) (.cons (.t rfl) ResL.nil)) ?_
     exact (by rw [serverN_0 hb1 hb2 hb3 hb4]; rfl)
set_option maxHeartbeats 4000000 in
theorem c_spec_l42Client (x : Neck) (e : Ev) (hg : NeckGood x) (ht : x.time ≤ 1000000) :
    Fn Tryz.prog 75 [x.av, e.av] (AV.tup [(clientN x e).1.av, AV.bool (clientN x e).2]) := by
 refine Fn.intro 53 Tryz.func75 rfl Tryz.ntmps75 rfl (by kernel_rfl) (fun W I a hs => ?_)
 have hln := hg.lens
 have hrl := hg.radio
 refine sr <| hs.box rfl .tt fun b2 I a w hs => hs.o .bp fun hs => hs.alloc rfl ty41 zc41 fun b4 I a w hs => hs.sc fun hs => nn <| sr <| hs.o .fv fun hs => hs.o (.lb 0) fun hs => hs.o .fp fun hs => hs.o .l1 fun hs => ?_
 refine hs.o (.cl (c_spec_l42Now x.calls e.client)) fun hs => ?_
 refine hs.s fun hs => nn <| wp_seq <| wp_block <| sr <| hs.o .fp fun hs => hs.o .l1 fun hs => hs.o .eqic fun hs => hs.s fun hs => nn ?_
 refine hs.cd (fun hb1 => ?_) fun hb1 => ?_
 ·try simp only [B] at hb1
  refine sr <| hs.o (.ls 0) fun hs => ?_
  refine hs.o .la fun hs => ?_
  refine hs.o (.c2 (c_spec_l42Begins x e hg ht)) fun hs => hs.o .e fun hs => hs.o .e fun hs => ?_
  refine hs.sb 1 fun hs => ?_
  refine hs.s fun hs => nn <| wp_ret <| block_r <| then_r ?_
  refine hs.ret rfl (.cons (.s 1 ty41 rfl rfl (by first | rfl | assumption)) (.cons (.t rfl) ResL.nil)) ?_
  exact (by rw [clientN_1 hb1]; rfl)
 ·try simp only [B] at hb1
  refine sr <| hs.m fun hs => hs.o .lssc fun hs => hs.s fun hs => nn ?_
  refine hs.cd (fun hb2 => ?_) fun hb2 => ?_
  ·simp only [B] at hb2
   refine sr <| hs.o (.ls 0) fun hs => ?_
   refine hs.sb 1 fun hs => ?_
   refine hs.sc fun hs => nn <| wp_ret <| block_r <| then_r ?_
   refine hs.ret rfl (.cons (.s 1 ty41 rfl rfl (by first | rfl | assumption)) (.cons (.t rfl) ResL.nil)) ?_
   exact (by rw [clientN_n hb1 hb2]; rfl)
  ·simp only [B] at hb2; have hni := (nowI_hit hb2).1
   refine sr <| hs.o .fp fun hs => hs.o .l1 fun hs => hs.o .eqic fun hs => hs.s fun hs => nn ?_
   refine hs.cd (fun hb3 => ?_) fun hb3 => ?_
   ·try simp only [B] at hb3
    refine sr ?_
    refine hs.lit0 rfl un38 ty118 (by decide) fun b29 I a w hs => ?_
    refine hs.o .fv fun hs => hs.o (.lb 0) fun hs => ?_
    refine hs.append 2 rfl un38 ty118 rfl .tt .r rfl (by simp; omega) fun v32 a w hs => ?_
    simp only [List.nil_append] at hs
    refine hs.o .fv fun hs => ?_
    try have ho32 := hs.oneRow 2 rfl
    refine hs.s1 0 fun hs => ?_
    refine nn <| wp_seq ?_
    obtain ⟨bk1, ck1, ek1⟩ := hs.rowBlock 2 rfl (by simp only [List.length_map]; omega)
    subst ek1
    refine St.region <| hs.o .fv fun hs => hs.o (.lb 0) fun hs => hs.m fun hs => ?_
    refine hs.o (ok_idxO un38 ty118 .tt .tt (fun _ => by simp only [List.length_map]; omega)) fun hs => ?_
    refine hs.o .fv fun hs => ?_
    refine hs.storeR1 (j := 8) 2 ty4 .tt .c (by first | exact one_val rfl | exact one_rows | exact one_ptr | exact one_fn | assumption) rfl (by exact map_get (by omega)) rfl rfl fun a w hs => ?_
    refine nn <| wp_seq ?_
    have e9 : ∀ y, y = Call.cells ({ elt x.calls (nowI x.calls e.client).toNat with over := true }) → (List.map Call.cells x.calls).set (nowI x.calls e.client).toNat y = List.map Call.cells (x.calls.set (nowI x.calls e.client).toNat ({ elt x.calls (nowI x.calls e.client).toNat with over := true })) := fun y hy => by rw [hy, List.map_set]
    rw [e9] at hs
    rotate_left
    ·rfl
    obtain ⟨I, hs, hf⟩ := hs.freezeRow 2 rfl
    have hs := hs.updBox (q := 3) 0 rfl rfl hf
    refine St.region <| hs.o (.ls 0) fun hs => ?_
    refine hs.sb 1 fun hs => ?_
    refine hs.sc fun hs => nn <| wp_ret <| block_r <| then_r ?_
    refine hs.ret rfl (.cons (.s 1 ty41 rfl rfl (by first | rfl | assumption)) (.cons (.t rfl) ResL.nil)) ?_
    exact (by rw [clientN_3 hb1 hb2 hb3]; rfl)
   ·try simp only [B] at hb3
    refine wp_skip <| block_n <| then_n <| wp_seq ?_
    have hs := hs.ownGone
    refine hs.drawD [([], none), ([], none), ([0], none), ([2], some (2, [43])), ([], none), ([0], none), ([], none), ([], none), ([], none), ([], none), ([2], some (2, [])), ([], none), ([0], some (0, []))] (by kernel_rfl) (by kernel_rfl) rfl ?_
    refine .o (ok_lit0 un37 ty135) <| .o .fv ?_
    refine .r [0] (.lb 0) ?_
    refine RunD.appendOB 2 rfl rfl un37 ty135 rfl .tt .r (by simp; omega) ?_
    refine .o .fv ?_
    refine .r [0] (.lb 0) ?_
    refine .o .mv ?_
    refine .o .ix ?_
    refine .o .la ?_
    refine .o (.c1 (c_spec_CallWords _ x.time (hg.call (nowI_hit hb2).1) ht)) ?_
    refine RunD.callM (d' := 43) (xs := fun v => [AV.val v, wordsAV (callWords (elt x.calls (nowI x.calls e.client).toNat))]) 2 rfl rfl (fun v => c_spec_l42Send v x.radio (callWords (elt x.calls (nowI x.calls e.client).toNat)) hg.radio) (fun I a he hg => holds_cons rfl ((args_cons .r args_nil) I a he hg)) ?_
    refine .o .fv ?_
    refine RunD.eff (x := AV.any) 0 (fun F W0 I0 I a w Q hs kk => hs.s1 0 fun hs => kk _ _ _ hs) ?_
    refine .nil ?_
    intro I a w hs
    refine then_n <| sr <| hs.o (.ls 0) fun hs => ?_
    refine hs.sb 1 fun hs => ?_
    refine hs.sc fun hs => nn <| wp_ret ?_
    refine hs.ret rfl (.cons (.s 1 ty41 rfl rfl (by first | rfl | assumption)) (.cons (.t rfl) ResL.nil)) ?_
    exact (by rw [clientN_2 hb1 hb2 hb3]; rfl)
end Go.Proofs.YtkoebplikhlapaaGreatDoor
