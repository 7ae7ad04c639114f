/- Part 30: rules of the proofs, contracts of functions, plain facts. -/
import Derived.Test.YtkoebplikhlapaaGreatDoorP29
set_option linter.unusedVariables false
set_option linter.unusedSimpArgs false
set_option maxRecDepth 100000
namespace Go.Proofs.YtkoebplikhlapaaGreatDoor
open Go Go.RowKit
def Call.avO (q : Call) (g n : Value) : AV := .agg [AV.int q.client, AV.int q.num, AV.int q.kind, intsAV q.keys, AV.int q.val, depsAV q.ctx, AV.int q.begin_, AV.int q.end_, AV.bool q.over, AV.int q.stamp.time, AV.int q.stamp.site, .val g, .val n]
def Call.avN (q : Call) (n : Value) : AV := .agg [AV.int q.client, AV.int q.num, AV.int q.kind, intsAV q.keys, AV.int q.val, depsAV q.ctx, AV.int q.begin_, AV.int q.end_, AV.bool q.over, AV.int q.stamp.time, AV.int q.stamp.site, answersAV q.got, .val n]
def Call.avG (q : Call) (g : Value) : AV := .agg [AV.int q.client, AV.int q.num, AV.int q.kind, intsAV q.keys, AV.int q.val, depsAV q.ctx, AV.int q.begin_, AV.int q.end_, AV.bool q.over, AV.int q.stamp.time, AV.int q.stamp.site, .val g, depsAV q.needs]
theorem CallGood.lens {q : Call} {t : Int} (h : CallGood q t) : 1 ≤ q.keys.length ∧ q.keys.length ≤ 3 ∧ q.ctx.length ≤ 6 ∧ q.needs.length ≤ 6 ∧ q.got.length ≤ 3 ∧ ∀ a ∈ q.got, a.ver.deps.length ≤ 6 := by
  have h1 := h.keys
  have hu : keysUp q.keys = true := by simp only [keysOk, Bool.and_eq_true] at h1; exact h1.1
  have h2 : 1 ≤ q.keys.length ∧ q.keys.length ≤ 3 := by
    simp only [keysOk, Bool.and_eq_true, Bool.or_eq_true, inB, beq_iff_eq, decide_eq_true_eq] at h1; omega
  have h3 : q.got.length ≤ q.keys.length := gots_le hu (gotsOk_iff.2 ⟨h.has, h.sorted, h.good⟩)
  exact ⟨h2.1, h2.2, depsOk_len6 h.ctx, depsOk_len6 h.needs, by omega, fun a ha => depsOk_len6 (ansGood_deps (h.good a ha))⟩
theorem CallGood.small {q : Call} {t : Int} (h : CallGood q t) : smallC q := by
  have := h.lens
  exact ⟨by omega, by omega, by omega, fun a ha => (by have := this.2.2.2.2.2 a ha; omega), by omega⟩
theorem toBoth_elt (q : Call) (m : Word) {j : Nat} (hj : j < 2) : elt (toBoth q m) j = { m with frm := 10 + q.client, to := 2 * q.client + (j : Int), call := q.num } := by
  match j, hj with
  | 0, _ => show _ = { m with frm := 10 + q.client, to := 2 * q.client + (0 : Int), call := q.num }; rw [Int.add_zero]; rfl
  | 1, _ => rfl
theorem toBoth_take (q : Call) (m : Word) {j : Nat} (hj : j < 2) : (toBoth q m).take j ++ [{ m with frm := 10 + q.client, to := 2 * q.client + (j : Int), call := q.num }] = (toBoth q m).take (j + 1) := by
  rw [← toBoth_elt q m hj, ← take_elt hj]
set_option maxHeartbeats 4000000 in
theorem c_spec_l31Copy (q : Call) (h : smallC q) :
    Fn Tryz.prog 144 [q.av] (q.av) := by
 refine Fn.intro 45 Tryz.func144 rfl Tryz.ntmps144 rfl (by kernel_rfl) (fun W I a hs => ?_)
 obtain ⟨h1, h2, h4, h5, h3⟩ := h
 refine sr <| hs.box rfl .tt fun b1 I a w hs => hs.alloc rfl ty118 zc118 fun b2 I a w hs => nn <| sr ?_
 refine hs.lit0 rfl un54 ty3 (by decide) fun b6 I a w hs => ?_
 refine hs.o .fv fun hs => hs.o (.lb 0) fun hs => ?_
 refine hs.append 2 rfl un54 ty3 rfl .tt .r rfl (by simp; omega) fun v9 a w hs => ?_
 obtain ⟨I, hs, hf⟩ := hs.freezeRow 2 rfl
 have hs := hs.upd (t := 9) rfl hf; clear hf
 refine hs.o .fv fun hs => ?_
 refine hs.s1 0 fun hs => ?_
 refine nn <| sr ?_
 refine hs.lit0 rfl un87 ty165 (by decide) fun b11 I a w hs => ?_
 refine hs.o .fv fun hs => hs.o (.lb 0) fun hs => ?_
 refine hs.append 3 rfl un87 ty165 rfl .tt .r rfl (by simp; omega) fun v14 a w hs => ?_
 obtain ⟨I, hs, hf⟩ := hs.freezeRow 3 rfl
 have hs := hs.upd (t := 14) rfl hf; clear hf
 refine hs.o .fv fun hs => ?_
 refine hs.s1 0 fun hs => ?_
 refine nn <| sr ?_
 refine hs.lit0 rfl un87 ty165 (by decide) fun b16 I a w hs => ?_
 refine hs.o .fv fun hs => hs.o (.lb 0) fun hs => ?_
 refine hs.append 4 rfl un87 ty165 rfl .tt .r rfl (by simp; omega) fun v19 a w hs => ?_
 obtain ⟨I, hs, hf⟩ := hs.freezeRow 4 rfl
 have hs := hs.upd (t := 19) rfl hf; clear hf
 refine hs.o .fv fun hs => ?_
 refine hs.s1 0 fun hs => ?_
 refine nn <| sr ?_
 refine hs.lit0 rfl un116 ty186 (by decide) fun b21 I a w hs => ?_
 refine hs.s fun hs => nn <| wp_seq <| sr <| hs.sc fun hs => nn <| wp_block ?_
 refine St.lo (σ := Nat × Value) (run 3 3 (run 20 22 [])) ⟨fun ⟨k, v⟩ => [(4, AV.int k), (3, AV.val v)], fun ⟨k, v⟩ => [Own.box b1 118 q.cells, Own.box b2 118 [AV.val (.int .i64 0), AV.val (.int .i64 0), AV.val (.int .i64 0), AV.rows 1 [], AV.val (.int .i64 0), AV.rows 3 [], AV.val (.int .i64 0), AV.val (.int .i64 0), AV.val (.bool false), AV.val (.int .i64 0), AV.val (.int .i64 0), AV.rows 9 [], AV.rows 3 []], Own.gone, Own.gone, Own.gone, Own.row v 186 9 ((q.got.take k).map Answer.cells)], fun ⟨k, v⟩ => k ≤ q.got.length⟩ (fun ⟨k, v⟩ => q.got.length - k) (0, .slice (some ⟨b21, 0, none⟩) 0 0) hs ?ok1 ?round1
 case ok1 => exact Nat.zero_le _
 case round1 =>
  rintro ⟨k, v⟩ I a w hok hs
  have hk : k ≤ q.got.length := hok
  change St _ _ [Own.box b1 118 q.cells, Own.box b2 118 [AV.val (.int .i64 0), AV.val (.int .i64 0), AV.val (.int .i64 0), AV.rows 1 [], AV.val (.int .i64 0), AV.rows 3 [], AV.val (.int .i64 0), AV.val (.int .i64 0), AV.val (.bool false), AV.val (.int .i64 0), AV.val (.int .i64 0), AV.rows 9 [], AV.rows 3 []], Own.gone, Own.gone, Own.gone, Own.row v 186 9 ((q.got.take k).map Answer.cells)] _ _ _ at hs
  refine wp_seq <| sr <| hs.m fun hs => hs.o .fv fun hs => ?_
  refine hs.o (.lb 0) fun hs => ?_
  refine hs.o .ln fun hs => ?_
  refine hs.o .lss fun hs => nn ?_
  refine hs.cd (fun hb1 => ?_) fun hb1 => ?_
  ·try simp only [B] at hb1
   refine wp_skip <| then_n <| wp_seq <| wp_block <| sr <| hs.o .fv fun hs => hs.o (.lb 0) fun hs => hs.m fun hs => ?_
   refine hs.o .ix fun hs => ?_
   refine hs.o .la fun hs => ?_
   refine hs.alloc rfl ty186 zc186 fun b5 I a w hs => ?_
   refine hs.sb 6 fun hs => ?_
   refine nn <| sr <| hs.o .fv fun hs => hs.o (.ls 6) fun hs => hs.o (.c1 (c_spec_l2Copy _ (h5 _ (elt_mem hb1)))) fun hs => hs.o .fv fun hs => hs.storeS 6 ty173 .tt .tt rfl rfl rfl fun a w hs => nn <| St.region <| hs.m fun hs => ?_
   refine hs.o (.ls 6) fun hs => ?_
   refine hs.o (.li [(elt q.got k).cells] zo186 (.u .nil)) fun hs => ?_
   refine hs.append 5 rfl un116 ty186 rfl .tt .r rfl (by simp; omega) fun v41 a w hs => ?_
   rw [snocD, ← take_elt hb1] at hs
   refine hs.s fun hs => wpList_nil <| block_n <| then_n <| St.region <| hs.m fun hs => ?_
   refine hs.o .ad fun hs => ?_
   refine hs.s fun hs => nn ?_
   have hs := hs.drop 6
   exact hs.ag (k + 1, v41) (hb1)
  ·try simp only [B] at hb1
   refine wp_exit <| then_x <| then_x <| block_hit <| then_n <| wp_seq ?_
   rw [List.take_of_length_le (by omega)] at hs
   obtain ⟨I, hs, hf⟩ := hs.freezeRow 5 rfl
   have hs := hs.upd (t := 3) rfl hf; clear hf
   refine St.region <| hs.m fun hs => hs.o .fv fun hs => ?_
   refine hs.s1 0 fun hs => ?_
   refine nn <| sr <| hs.o (.ls 0) fun hs => ?_
   refine hs.sb 1 fun hs => ?_
   refine nn <| wp_ret ?_
   refine hs.ret rfl (.cons (.s 1 ty118 rfl rfl (by first | rfl | assumption)) ResL.nil) ?_
   rfl
set_option maxHeartbeats 4000000 in
theorem c_spec_l31CopyO (q : Call) (h : smallC q) :
    FnE Tryz.prog 144 [q.av] [] (fun _ : Value × Value => True) (fun u => [Own.row u.1 186 9 (q.got.map Answer.cells), Own.row u.2 165 3 (q.needs.map Dep.cells)]) (fun u => q.avO u.1 u.2) := by
 refine FnE.intro 45 Tryz.func144 rfl Tryz.ntmps144 rfl (by kernel_rfl) (fun W I a hs => ?_)
 obtain ⟨h1, h2, h4, h5, h3⟩ := h
 refine sr <| hs.box rfl .tt fun b1 I a w hs => hs.alloc rfl ty118 zc118 fun b2 I a w hs => nn <| sr ?_
 refine hs.lit0 rfl un54 ty3 (by decide) fun b6 I a w hs => ?_
 refine hs.o .fv fun hs => hs.o (.lb 0) fun hs => ?_
 refine hs.append 2 rfl un54 ty3 rfl .tt .r rfl (by simp; omega) fun v9 a w hs => ?_
 obtain ⟨I, hs, hf⟩ := hs.freezeRow 2 rfl
 have hs := hs.upd (t := 9) rfl hf; clear hf
 refine hs.o .fv fun hs => ?_
 try have ho9 := hs.oneRow 2 rfl
 refine hs.s1 0 fun hs => ?_
 refine nn <| sr ?_
 refine hs.lit0 rfl un87 ty165 (by decide) fun b11 I a w hs => ?_
 refine hs.o .fv fun hs => hs.o (.lb 0) fun hs => ?_
 refine hs.append 3 rfl un87 ty165 rfl .tt .r rfl (by simp; omega) fun v14 a w hs => ?_
 obtain ⟨I, hs, hf⟩ := hs.freezeRow 3 rfl
 have hs := hs.upd (t := 14) rfl hf; clear hf
 refine hs.o .fv fun hs => ?_
 try have ho14 := hs.oneRow 3 rfl
 refine hs.s1 0 fun hs => ?_
 refine nn <| sr ?_
 refine hs.lit0 rfl un87 ty165 (by decide) fun b16 I a w hs => ?_
 refine hs.o .fv fun hs => hs.o (.lb 0) fun hs => ?_
 refine hs.append 4 rfl un87 ty165 rfl .tt .r rfl (by simp; omega) fun v19 a w hs => ?_
 simp only [List.nil_append] at hs
 refine hs.o .fv fun hs => ?_
 try have ho19 := hs.oneRow 4 rfl
 refine hs.s1 0 fun hs => ?_
 refine nn <| sr ?_
 refine hs.lit0 rfl un116 ty186 (by decide) fun b21 I a w hs => ?_
 refine hs.s fun hs => nn <| wp_seq <| sr <| hs.sc fun hs => nn <| wp_block ?_
 refine St.lo (σ := Nat × Value) (run 3 3 (run 20 22 [])) ⟨fun ⟨k, v⟩ => [(4, AV.int k), (3, AV.val v)], fun ⟨k, v⟩ => [Own.box b1 118 [AV.int q.client, AV.int q.num, AV.int q.kind, intsAV q.keys, AV.int q.val, depsAV q.ctx, AV.int q.begin_, AV.int q.end_, AV.bool q.over, AV.int q.stamp.time, AV.int q.stamp.site, answersAV q.got, AV.val v19], Own.box b2 118 [AV.val (.int .i64 0), AV.val (.int .i64 0), AV.val (.int .i64 0), AV.rows 1 [], AV.val (.int .i64 0), AV.rows 3 [], AV.val (.int .i64 0), AV.val (.int .i64 0), AV.val (.bool false), AV.val (.int .i64 0), AV.val (.int .i64 0), AV.rows 9 [], AV.rows 3 []], Own.gone, Own.gone, Own.row v19 165 3 (q.needs.map Dep.cells), Own.row v 186 9 ((q.got.take k).map Answer.cells)], fun ⟨k, v⟩ => k ≤ q.got.length⟩ (fun ⟨k, v⟩ => q.got.length - k) (0, .slice (some ⟨b21, 0, none⟩) 0 0) hs ?ok1 ?round1
 case ok1 => exact Nat.zero_le _
 case round1 =>
  rintro ⟨k, v⟩ I a w hok hs
  have hk : k ≤ q.got.length := hok
  change St _ _ [Own.box b1 118 [AV.int q.client, AV.int q.num, AV.int q.kind, intsAV q.keys, AV.int q.val, depsAV q.ctx, AV.int q.begin_, AV.int q.end_, AV.bool q.over, AV.int q.stamp.time, AV.int q.stamp.site, answersAV q.got, AV.val v19], Own.box b2 118 [AV.val (.int .i64 0), AV.val (.int .i64 0), AV.val (.int .i64 0), AV.rows 1 [], AV.val (.int .i64 0), AV.rows 3 [], AV.val (.int .i64 0), AV.val (.int .i64 0), AV.val (.bool false), AV.val (.int .i64 0), AV.val (.int .i64 0), AV.rows 9 [], AV.rows 3 []], Own.gone, Own.gone, Own.row v19 165 3 (q.needs.map Dep.cells), Own.row v 186 9 ((q.got.take k).map Answer.cells)] _ _ _ at hs
  refine wp_seq <| sr <| hs.m fun hs => hs.o .fv fun hs => ?_
  refine hs.o (.lb 0) fun hs => ?_
  refine hs.o .ln fun hs => ?_
  refine hs.o .lss fun hs => nn ?_
  refine hs.cd (fun hb1 => ?_) fun hb1 => ?_
  ·try simp only [B] at hb1
   refine wp_skip <| then_n <| wp_seq <| wp_block <| sr <| hs.o .fv fun hs => hs.o (.lb 0) fun hs => hs.m fun hs => ?_
   refine hs.o .ix fun hs => ?_
   refine hs.o .la fun hs => ?_
   refine hs.alloc rfl ty186 zc186 fun b5 I a w hs => ?_
   refine hs.sb 6 fun hs => ?_
   refine nn <| sr <| hs.o .fv fun hs => hs.o (.ls 6) fun hs => hs.o (.c1 (c_spec_l2Copy _ (h5 _ (elt_mem hb1)))) fun hs => hs.o .fv fun hs => hs.storeS 6 ty173 .tt .tt rfl rfl rfl fun a w hs => nn <| St.region <| hs.m fun hs => ?_
   refine hs.o (.ls 6) fun hs => ?_
   refine hs.o (.li [(elt q.got k).cells] zo186 (.u .nil)) fun hs => ?_
   refine hs.append 5 rfl un116 ty186 rfl .tt .r rfl (by simp; omega) fun v41 a w hs => ?_
   rw [snocD, ← take_elt hb1] at hs
   refine hs.s fun hs => wpList_nil <| block_n <| then_n <| St.region <| hs.m fun hs => ?_
   refine hs.o .ad fun hs => ?_
   refine hs.s fun hs => nn ?_
   have hs := hs.drop 6
   exact hs.ag (k + 1, v41) (hb1)
  ·try simp only [B] at hb1
   refine wp_exit <| then_x <| then_x <| block_hit <| then_n <| wp_seq ?_
   rw [List.take_of_length_le (by omega)] at hs
   refine St.region <| hs.m fun hs => hs.o .fv fun hs => ?_
   try have ho42 := hs.oneRow 5 rfl
   refine hs.s1 0 fun hs => ?_
   refine nn <| sr <| hs.o (.ls 0) fun hs => ?_
   refine hs.sb 1 fun hs => ?_
   refine nn <| wp_ret ?_
   exact hs.retE (v, v19) [5, 4] rfl (.cons (.s 1 ty118 rfl rfl (by first | rfl | assumption)) .nil) trivial rfl rfl
set_option maxHeartbeats 4000000 in
theorem c_spec_l31To (q : Call) (m : Word) (hc : clientB q.client = true) (hm : smallW m) :
    Fn Tryz.prog 112 [q.av, m.av] (wordsAV (toBoth q m)) := by
 refine Fn.intro 31 Tryz.func112 rfl Tryz.ntmps112 rfl (by kernel_rfl) (fun W I a hs => ?_)
 have hcl := clientB_iff.1 hc
 refine sr <| hs.o .bp fun hs => hs.box rfl .tt fun b3 I a w hs => hs.sc fun hs => nn <| sr ?_
 refine hs.lit0 rfl un37 ty135 (by decide) fun b7 I a w hs => ?_
 refine hs.s fun hs => nn <| wp_seq <| sr <| hs.sc fun hs => nn <| wp_block ?_
 refine St.lo (σ := Nat × Int × Int × Int × Value) (run 2 5 (run 22 8 [])) ⟨fun ⟨j, f1, f2, f3, v⟩ => [(6, AV.int j), (5, AV.val v)], fun ⟨j, f1, f2, f3, v⟩ => [Own.box b3 135 ({ m with frm := f1, to := f2, call := f3 } : Word).cells, Own.row v 135 15 (((toBoth q m).take j).map Word.cells)], fun ⟨j, f1, f2, f3, v⟩ => j ≤ 2⟩ (fun ⟨j, f1, f2, f3, v⟩ => 2 - j) (0, m.frm, m.to, m.call, .slice (some ⟨b7, 0, none⟩) 0 0) hs ?ok1 ?round1
 case ok1 => exact Nat.zero_le _
 case round1 =>
  rintro ⟨j, f1, f2, f3, v⟩ I a w hok hs
  have hj : j ≤ 2 := hok
  change St _ _ [Own.box b3 135 ({ m with frm := f1, to := f2, call := f3 } : Word).cells, Own.row v 135 15 (((toBoth q m).take j).map Word.cells)] _ _ _ at hs
  refine wp_seq <| sr <| hs.m fun hs => hs.o .lssc fun hs => nn ?_
  refine hs.cd (fun hb1 => ?_) fun hb1 => ?_
  ·try simp only [B] at hb1
   refine wp_skip <| then_n <| wp_seq <| wp_block <| sr <| hs.o .fp fun hs => hs.o .l1 fun hs => ?_
   refine hs.o .ad fun hs => ?_
   refine hs.o .fv fun hs => ?_
   refine hs.s1 0 fun hs => ?_
   refine nn <| sr <| hs.o .fp fun hs => hs.o .l1 fun hs => ?_
   refine hs.o (ok_mul .c .tt (fun _ => by omega)) fun hs => ?_
   refine hs.m fun hs => ?_
   refine hs.o .ad fun hs => ?_
   refine hs.o .fv fun hs => ?_
   refine hs.s1 0 fun hs => ?_
   refine nn <| sr <| hs.o .fp fun hs => hs.o .l1 fun hs => hs.o .fv fun hs => ?_
   refine hs.s1 0 fun hs => ?_
   refine nn <| St.region <| hs.m fun hs => ?_
   refine hs.o (.ls 0) fun hs => hs.o (.c1 (c_spec_l11Copy { m with frm := 10 + q.client, to := 2 * q.client + (j : Int), call := q.num } hm)) fun hs => ?_
   refine hs.o (.li [({ m with frm := 10 + q.client, to := 2 * q.client + (j : Int), call := q.num } : Word).cells] zo135 (.u .nil)) fun hs => ?_
   refine hs.append 1 rfl un37 ty135 rfl .tt .r rfl (by simp [toBoth]; omega) fun v29 a w hs => ?_
   rw [snocD, toBoth_take q m (by omega)] at hs
   refine hs.s fun hs => wpList_nil <| block_n <| then_n <| St.region <| hs.m fun hs => ?_
   refine hs.o .ad fun hs => ?_
   refine hs.s fun hs => nn ?_
   exact hs.ag (j + 1, 10 + q.client, 2 * q.client + (j : Int), q.num, v29) (by show j + 1 ≤ 2; omega)
  ·try simp only [B] at hb1
   refine wp_exit <| then_x <| then_x <| block_hit <| then_n <| wp_seq ?_
   rw [List.take_of_length_le (by show 2 ≤ j; omega)] at hs
   obtain ⟨I, hs, hf⟩ := hs.freezeRow 1 rfl
   have hs := hs.upd (t := 5) rfl hf; clear hf
   refine St.region <| hs.m fun hs => hs.s fun hs => nn <| wp_ret ?_
   refine hs.rt ?_
   rfl
def askKey (key : Int) : Word := { word0 with kind := 3, key := key }
def askNeed (d : Dep) : Word := { word0 with kind := 3, key := d.key, stamp := d.stamp }
def wk1 (q : Call) (k : Nat) : List Word := (((q.keys.take k).filter fun k => decide (gotI q k < 0)).map fun key => toBoth q (askKey key)).flatten
def wk2 (q : Call) (k : Nat) : List Word := wk1 q q.keys.length ++ ((q.needs.take k).map fun d => toBoth q (askNeed d)).flatten
theorem wk1_yes {q : Call} {k : Nat} (h : k < q.keys.length) (hg : gotI q (elt q.keys k) < 0) : wk1 q k ++ toBoth q (askKey (elt q.keys k)) = wk1 q (k + 1) := by
  unfold wk1; rw [filt_yes h (by simpa using hg), List.map_append, List.flatten_append]; simp
theorem wk1_no {q : Call} {k : Nat} (h : k < q.keys.length) (hg : ¬ gotI q (elt q.keys k) < 0) : wk1 q k = wk1 q (k + 1) := by
  unfold wk1; rw [filt_no h (by simpa using hg)]
theorem wk2_zero {q : Call} {k : Nat} (h : k = q.keys.length) : wk1 q k = wk2 q 0 := by subst h; simp [wk2]
theorem wk2_succ {q : Call} {k : Nat} (h : k < q.needs.length) : wk2 q k ++ toBoth q (askNeed (elt q.needs k)) = wk2 q (k + 1) := by
  unfold wk2; rw [take_elt h, List.map_append, List.flatten_append, List.append_assoc]; simp
theorem wk1_len (q : Call) : ∀ k, k ≤ q.keys.length → (wk1 q k).length ≤ 2 * k
  | 0, _ => by simp [wk1]
  | k + 1, h => by
    have ih := wk1_len q k (by omega)
    by_cases hg : gotI q (elt q.keys k) < 0
    · rw [← wk1_yes (by omega) hg, List.length_append]; show _ + 2 ≤ _; omega
    · rw [← wk1_no (by omega) hg]; omega
theorem wk2_len (q : Call) : ∀ k, k ≤ q.needs.length → (wk2 q k).length ≤ 2 * q.keys.length + 2 * k
  | 0, _ => by have := wk1_len q q.keys.length (Nat.le_refl _); simp [wk2]; omega
  | k + 1, h => by
    have ih := wk2_len q k (by omega)
    rw [← wk2_succ (by omega), List.length_append]; show _ + 2 ≤ _; omega
theorem wk2_all {q : Call} {k : Nat} (hw : waitsC q = true) (hk : ¬ q.kind = 1) (h : q.needs.length ≤ k) : wk2 q k = callWords q := by
  unfold callWords asks wk2 wk1
  rw [if_pos hw, if_neg hk, List.take_length, List.take_of_length_le h, List.map_append, List.flatten_append, List.map_map, List.map_map]
  rfl
theorem words_test {q : Call} {t : Int} (h : callOk q (q.begin_ + q.end_) = true) (he : 0 ≤ q.end_) : (!callOk q (q.begin_ + q.end_) || decide (0 < q.end_) || q.over) = !waitsC q := by
  rw [h]
  unfold waitsC
  have e : decide (0 < q.end_) = !(q.end_ == 0) := by rw [Bool.eq_iff_iff]; simp; omega
  rw [e]; simp
theorem CallGood.endRange {q : Call} {t : Int} (h : CallGood q t) (ht : 0 ≤ t) : 0 ≤ q.end_ ∧ q.end_ ≤ t := by
  by_cases he : q.end_ = 0
  · omega
  · have := h.ended he; have := h.begin_; omega
theorem small_ok' {m : Word} (h1 : m.deps = []) (h2 : m.vers = []) (h3 : m.waits = []) (h4 : m.owes = []) : smallW m := by
  unfold smallW; rw [h1, h2, h3, h4]; simp [smallVs]
theorem askKey_small (key : Int) : smallW (askKey key) := small_ok' rfl rfl rfl rfl
theorem askNeed_small (d : Dep) : smallW (askNeed d) := small_ok' rfl rfl rfl rfl
set_option maxHeartbeats 4000000 in
theorem c_spec_CallWords (q : Call) (t : Int) (h : CallGood q t) (ht : t ≤ 1000000) :
    Fn Tryz.prog 92 [q.av] (wordsAV (callWords q)) := by
 refine Fn.intro 89 Tryz.func92 rfl Tryz.ntmps92 rfl (by kernel_rfl) (fun W I a hs => ?_)
 have hb := h.begin_
 have her := h.endRange (by omega)
 have hln := h.lens
 have hown := callOk_own (callOk_iff.2 h)
 refine sr <| hs.o .bp fun hs => hs.sc fun hs => nn <| sr ?_
 refine hs.lit0 rfl un37 ty135 (by decide) fun b6 I a w hs => ?_
 refine hs.s fun hs => nn <| wp_seq <| sr ?_
 refine hs.o .la fun hs => ?_
 refine hs.o .fp fun hs => hs.o .l1 fun hs => hs.o .fp fun hs => hs.o .l1 fun hs => ?_
 refine hs.o .ad fun hs => ?_
 refine hs.o (ok_call (c_spec_CallOk q (q.begin_ + q.end_) (by omega) (by omega)) (args_cons (.t rfl) (args_cons (.t rfl) args_nil))) fun hs => ?_
 refine hs.o .nt fun hs => hs.m fun hs => hs.q .F .fp fun hs => ?_
 refine hs.q .F (.lx .ag) fun hs => ?_
 refine hs.q .F (ok_gtr .ag .c) fun hs => ?_
 refine hs.o .or fun hs => hs.m fun hs => hs.q .F .fp fun hs => ?_
 refine hs.q .F (.lx .ag) fun hs => ?_
 refine hs.o .or fun hs => nn ?_
 refine hs.cd (fun hb1 => ?_) fun hb1 => ?_
 ·rw [words_test (t := t) hown her.1] at hb1; replace hb1 := nt hb1
  refine sr <| hs.m fun hs => hs.s fun hs => nn <| wp_ret <| then_r ?_
  obtain ⟨I, hs, hf⟩ := hs.freezeRow 0 rfl
  have hs := hs.upd (t := 2) rfl hf; clear hf
  refine hs.rt ?_
  exact (by unfold callWords; rw [hb1]; rfl)
 ·rw [words_test (t := t) hown her.1] at hb1; replace hb1 := nf hb1
  refine wp_skip <| then_n <| wp_seq <| sr <| hs.o .fp fun hs => hs.o .l1 fun hs => hs.o .eqic fun hs => nn ?_
  refine hs.cd (fun hb2 => ?_) fun hb2 => ?_
  ·try simp only [B] at hb2
   refine wp_seq <| hs.dk ?_
   refine .o .la ?_
   refine .o .fp <| .o .l1 ?_
   refine .o .ix ?_
   refine .o .l1 <| .o .fp <| .o .l1 <| .o .fp <| .o .l1 ?_
   refine .o (.bd zc135 (.k (.k (.k (.k Parts.nil))))) ?_
   refine .o (.c2 (c_spec_l31To q { word0 with kind := 1, key := elt q.keys 0, val := q.val, deps := q.ctx } h.client ⟨by show q.ctx.length ≤ _; omega, by simp [smallVs, word0], by simp [smallVs, word0], by simp [word0]⟩)) ?_
   refine .o .as <| .nil ?_
   intro I a w hs
   refine then_n <| wp_ret <| then_r ?_
   refine hs.rt ?_
   exact (by unfold callWords asks; rw [hb1, if_pos rfl, if_pos hb2]; rfl)
  ·try simp only [B] at hb2
   refine wp_skip <| then_n <| wp_seq <| sr <| hs.sc fun hs => nn <| wp_block ?_
   refine St.lo (σ := Nat × Value) (run 2 3 (run 25 39 [])) ⟨fun ⟨k, v⟩ => [(4, AV.int k), (3, AV.val v)], fun ⟨k, v⟩ => [Own.row v 135 15 ((wk1 q k).map Word.cells)], fun ⟨k, v⟩ => k ≤ q.keys.length⟩ (fun ⟨k, v⟩ => q.keys.length - k) (0, .slice (some ⟨b6, 0, none⟩) 0 0) hs ?ok1 ?round1
   case ok1 => exact Nat.zero_le _
   case round1 =>
    rintro ⟨k, v⟩ I a w hok hs
    have hk : k ≤ q.keys.length := hok
    change St _ _ [Own.row v 135 15 ((wk1 q k).map Word.cells)] _ _ _ at hs
    refine wp_seq <| sr <| hs.m fun hs => hs.o .fp fun hs => hs.o .l1 fun hs => ?_
    refine hs.o .ln fun hs => ?_
    refine hs.o .lss fun hs => nn ?_
    refine hs.cd (fun hb3 => ?_) fun hb3 => ?_
    ·try simp only [B] at hb3
     refine wp_skip <| then_n <| wp_seq <| wp_block <| wp_seq <| hs.dk ?_
     refine .o .la ?_
     refine .o .fp <| .o .l1 <| .o .mv ?_
     refine .o .ix ?_
     refine .o .l1 <| .o (.c2 (c_spec_l31Got ..)) <| .o .lssc <| .nil ?_
     intro I a w hs
     refine then_n ?_
     refine hs.cd (fun hb4 => ?_) fun hb4 => ?_
     ·try simp only [B] at hb4
      refine hs.drawT 9 (by kernel_rfl) (by kernel_rfl) (by kernel_rfl) ?_
      simp only [List.take_succ_cons, List.take_zero, List.drop_succ_cons, List.drop_zero]
      refine .o .mv ?_
      refine .o .la ?_
      refine .o .fp <| .o .l1 <| .o .mv ?_
      refine .o .ix ?_
      refine .o .l1 ?_
      refine .o (.bd zc135 (.k (.k Parts.nil))) ?_
      refine .o (.c2 (c_spec_l31To q (askKey (elt q.keys k)) h.client (askKey_small _))) <| .nil ?_
      intro I a w hs
      refine hs.append 0 rfl un37 ty135 rfl .tt .r rfl (by have := wk1_len q k hk; simp [toBoth]; omega) fun v63 a w hs => ?_
      rw [← List.map_append, wk1_yes hb3 (by simpa using hb4)] at hs
      refine hs.s fun hs => wpList_nil <| block_n <| then_n <| St.region <| hs.m fun hs => ?_
      refine hs.o .ad fun hs => ?_
      refine hs.s fun hs => nn ?_
      exact hs.ag (k + 1, v63) (hb3)
     ·try simp only [B] at hb4
      refine wp_skip <| block_n <| then_n <| St.region <| hs.m fun hs => ?_
      refine hs.o .ad fun hs => ?_
      refine hs.s fun hs => nn ?_
      rw [wk1_no hb3 (by simpa using hb4)] at hs
      exact hs.ag (k + 1, v) (hb3)
    ·try simp only [B] at hb3
     refine wp_exit <| then_x <| then_x <| block_hit <| then_n <| wp_seq <| wp_seq ?_
     rw [wk2_zero (by omega)] at hs
     refine St.region <| hs.sc fun hs => nn <| wp_block ?_
     refine St.lo (σ := Nat × Value) (3 :: (5 :: (run 24 64 []))) ⟨fun ⟨j, v⟩ => [(5, AV.int j), (3, AV.val v)], fun ⟨j, v⟩ => [Own.row v 135 15 ((wk2 q j).map Word.cells)], fun ⟨j, v⟩ => j ≤ q.needs.length⟩ (fun ⟨j, v⟩ => q.needs.length - j) (0, v) hs ?ok2 ?round2
     case ok2 => exact Nat.zero_le _
     case round2 =>
      rintro ⟨j, v⟩ I a w hok hs
      have hj : j ≤ q.needs.length := hok
      change St _ _ [Own.row v 135 15 ((wk2 q j).map Word.cells)] _ _ _ at hs
      refine wp_seq <| sr <| hs.m fun hs => hs.o .fp fun hs => hs.o .l1 fun hs => ?_
      refine hs.o .ln fun hs => ?_
      refine hs.o .lss fun hs => nn ?_
      refine hs.cd (fun hb5 => ?_) fun hb5 => ?_
      ·try simp only [B] at hb5
       refine wp_skip <| then_n <| wp_seq <| wp_block ?_
       refine hs.drawT 16 (by kernel_rfl) (by kernel_rfl) (by kernel_rfl) ?_
       simp only [List.take_succ_cons, List.take_zero, List.drop_succ_cons, List.drop_zero]
       refine .o .mv ?_
       refine .o .la ?_
       refine .o .fp <| .o .l1 <| .o .mv ?_
       refine .o .ix ?_
       refine .o .fp <| .o .l1 <| .o .fp <| .o .l1 <| .o .mv ?_
       refine .o .ix ?_
       refine .o .fp ?_
       refine .o .la ?_
       refine .o (.bd zc135 (.k (.k (.t Parts.nil)))) ?_
       refine .o (.c2 (c_spec_l31To q (askNeed (elt q.needs j)) h.client (askNeed_small _))) <| .nil ?_
       intro I a w hs
       refine hs.append 0 rfl un37 ty135 rfl .tt .r rfl (by have := wk2_len q j hj; simp [toBoth]; omega) fun v87 a w hs => ?_
       rw [← List.map_append, wk2_succ hb5] at hs
       refine hs.s fun hs => wpList_nil <| block_n <| then_n <| St.region <| hs.m fun hs => ?_
       refine hs.o .ad fun hs => ?_
       refine hs.s fun hs => nn ?_
       exact hs.ag (j + 1, v87) (hb5)
      ·try simp only [B] at hb5
       refine wp_exit <| then_x <| then_x <| block_hit <| then_n <| wp_seq ?_
       rw [wk2_all hb1 (by simpa using hb2) (by omega)] at hs
       obtain ⟨I, hs, hf⟩ := hs.freezeRow 0 rfl
       have hs := hs.upd (t := 3) rfl hf; clear hf
       refine St.region <| hs.m fun hs => hs.s fun hs => nn <| wp_ret ?_
       refine hs.rt ?_
       rfl
end Go.Proofs.YtkoebplikhlapaaGreatDoor
