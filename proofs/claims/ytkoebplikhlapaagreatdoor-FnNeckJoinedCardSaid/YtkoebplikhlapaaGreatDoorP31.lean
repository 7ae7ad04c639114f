/- Part 31: rules of the proofs, contracts of functions, plain facts. -/
import Derived.Test.YtkoebplikhlapaaGreatDoorP30
set_option linter.unusedVariables false
set_option linter.unusedSimpArgs false
set_option maxRecDepth 100000
namespace Go.Proofs.YtkoebplikhlapaaGreatDoor
open Go Go.RowKit
structure InsAAt (l : List Answer) (v : Answer) (k : Nat) (done : Bool) (out : List Answer) : Prop where
  hk : k ≤ l.length
  eq : insA l v = if done then out ++ l.drop k else out ++ insA (l.drop k) v
  len : out.length ≤ k + done.toNat
theorem InsAAt.zero (l : List Answer) (v : Answer) : InsAAt l v 0 false [] := ⟨Nat.zero_le _, by simp, by simp⟩
section
variable {l : List Answer} {v : Answer} {k : Nat} {out : List Answer} {done : Bool}
theorem InsAAt.before (hp : InsAAt l v k false out) (h : k < l.length) (he : v.key < (elt l k).key) : InsAAt l v (k + 1) true ((out ++ [v]) ++ [elt l k]) := by
  refine ⟨h, ?_, by have := hp.len; simp at this ⊢; omega⟩
  have := hp.eq
  rw [drop_elt h] at this
  simp only [insA, if_pos he] at this
  rw [this]; simp
theorem InsAAt.step (hp : InsAAt l v k done out) (h : k < l.length) (he : done = true ∨ ¬ v.key < (elt l k).key) : InsAAt l v (k + 1) done (out ++ [elt l k]) := by
  refine ⟨h, ?_, by have := hp.len; simp; omega⟩
  have := hp.eq
  cases done
  · rw [drop_elt h] at this
    have he : ¬ v.key < (elt l k).key := he.resolve_left (by simp)
    simp only [insA, if_neg he] at this
    rw [this]; simp
  · simp only [if_true] at this ⊢
    rw [this, drop_elt h]; simp
theorem InsAAt.endT (hp : InsAAt l v k true out) (h : l.length ≤ k) : out = insA l v := by
  have := hp.eq
  rw [List.drop_eq_nil_of_le h] at this; simpa using this.symm
theorem InsAAt.endF (hp : InsAAt l v k false out) (h : l.length ≤ k) : out ++ [v] = insA l v := by
  have := hp.eq
  rw [List.drop_eq_nil_of_le h] at this; simpa [insA] using this.symm
end
def needK (q : Call) : Nat → List Dep
  | 0 => q.needs
  | k + 1 => needK q k ++ needD (cameD q) (elt q.got k)
theorem needK_eq (q : Call) : ∀ k, k ≤ q.got.length → needK q k = q.needs ++ ((q.got.take k).map (needD (cameD q))).flatten
  | 0, _ => by simp [needK]
  | k + 1, h => by
    show needK q k ++ _ = _
    rw [needK_eq q k (by omega), take_elt (by omega), List.map_append, List.flatten_append, List.append_assoc]; simp
theorem needK_succ {q : Call} {k : Nat} (h : k < q.got.length) : needK q (k + 1) = needK q k ++ needD (cameD q) (elt q.got k) := rfl
theorem needK_yes {q : Call} {k : Nat} (h : k < q.got.length) (hl : stampLess (elt q.got k).ver.stamp (atD (cameD q) (elt q.got k).key) = true) : needK q k ++ [⟨(elt q.got k).key, atD (cameD q) (elt q.got k).key⟩] = needK q (k + 1) := by
  rw [needK_succ h]; unfold needD; rw [if_pos hl]
theorem needK_no {q : Call} {k : Nat} (h : k < q.got.length) (hl : ¬ stampLess (elt q.got k).ver.stamp (atD (cameD q) (elt q.got k).key) = true) : needK q k = needK q (k + 1) := by
  rw [needK_succ h]; unfold needD; rw [if_neg hl, List.append_nil]
theorem needK_len (q : Call) : ∀ k, k ≤ q.got.length → (needK q k).length ≤ q.needs.length + k
  | 0, _ => by simp [needK]
  | k + 1, h => by
    have ih := needK_len q k (by omega)
    rw [needK_succ (by omega), List.length_append]
    have : (needD (cameD q) (elt q.got k)).length ≤ 1 := by unfold needD; split <;> simp
    omega
theorem needK_all {q : Call} {k : Nat} (hk : k ≤ q.got.length) (h : q.got.length ≤ k) : needK q k = q.needs ++ needsD q := by rw [needK_eq q k hk]; unfold needsD; rw [List.take_of_length_le h]
def gotK (q : Call) (a : Answer) (k : Nat) : List Answer := if a.ver.dep ∈ q.needs.take k then q.got.set (gotI q a.key).toNat a else q.got
def leftK (q : Call) (a : Answer) (k : Nat) : List Dep := (q.needs.take k).filter fun d => decide (d ≠ a.ver.dep)
theorem mem_take_succ {α : Type} [Inhabited α] {l : List α} {k : Nat} {x : α} (h : k < l.length) : x ∈ l.take (k + 1) ↔ x ∈ l.take k ∨ x = elt l k := by rw [take_elt h]; simp
theorem gotK_hit {q : Call} {a : Answer} {k : Nat} (h : k < q.needs.length) (he : elt q.needs k = a.ver.dep) : gotK q a (k + 1) = q.got.set (gotI q a.key).toNat a := by
  unfold gotK; rw [if_pos ((mem_take_succ h).2 (.inr he.symm))]
theorem gotK_miss {q : Call} {a : Answer} {k : Nat} (h : k < q.needs.length) (he : elt q.needs k ≠ a.ver.dep) : gotK q a k = gotK q a (k + 1) := by
  unfold gotK
  by_cases hm : a.ver.dep ∈ q.needs.take k
  · rw [if_pos hm, if_pos ((mem_take_succ h).2 (.inl hm))]
  · rw [if_neg hm, if_neg fun hh => ((mem_take_succ h).1 hh).elim hm fun e => he e.symm]
theorem gotK_first {q : Call} {a : Answer} {k : Nat} (hd : depsOk q.needs = true) (h : k < q.needs.length) (he : elt q.needs k = a.ver.dep) : gotK q a k = q.got := by
  unfold gotK
  rw [if_neg]
  intro hm
  obtain ⟨i, hi, e⟩ := List.getElem_of_mem hm
  have hi' : i < k ∧ i < q.needs.length := by simp at hi; omega
  rw [List.getElem_take] at e
  have e2 : elt q.needs i = a.ver.dep := by rw [← e]; simp [elt, hi'.2]
  have := depsOk_fit hd hi'.1 h
  rw [e2, he] at this; omega
theorem leftK_hit {q : Call} {a : Answer} {k : Nat} (h : k < q.needs.length) (he : elt q.needs k = a.ver.dep) : leftK q a k = leftK q a (k + 1) := (filt_no h (by simp [he])).symm
theorem leftK_miss {q : Call} {a : Answer} {k : Nat} (h : k < q.needs.length) (he : elt q.needs k ≠ a.ver.dep) : leftK q a k ++ [elt q.needs k] = leftK q a (k + 1) := (filt_yes h (by simp [he])).symm
theorem leftK_len (q : Call) (a : Answer) (k : Nat) : (leftK q a k).length ≤ q.needs.length := filt_len _ _ _
theorem secondC_all {q : Call} {a : Answer} {t : Int} {k : Nat} (h : q.needs.length ≤ k) : secondC q a t = if (leftK q a k = [] ∧ q.needs ≠ []) then { q with got := gotK q a k, needs := leftK q a k, end_ := t } else { q with got := gotK q a k, needs := leftK q a k } := by
  unfold secondC leftK gotK
  rw [List.take_of_length_le h]
  by_cases hm : a.ver.dep ∈ q.needs
  · rw [if_pos hm, if_pos hm]
    have hne : q.needs ≠ [] := fun e => by rw [e] at hm; simp at hm
    dsimp only
    by_cases he : (q.needs.filter fun d => decide (d ≠ a.ver.dep)) = []
    · rw [if_pos he, if_pos ⟨he, hne⟩]
    · rw [if_neg he, if_neg fun hh => he hh.1]
  · rw [if_neg hm, if_neg hm]
    have hf : (q.needs.filter fun d => decide (d ≠ a.ver.dep)) = q.needs := by
      rw [List.filter_eq_self]; intro d hd; simp; rintro rfl; exact hm hd
    rw [hf, if_neg fun hh => hh.2 hh.1]
theorem second_test (d : Dep) (a : Answer) (h : a.ver.key = a.key) : ((d.key == a.key) && ([d.stamp.time, d.stamp.site] == [a.ver.stamp.time, a.ver.stamp.site])) = decide (d = a.ver.dep) := by
  obtain ⟨k, ⟨t, s⟩⟩ := d
  obtain ⟨ak, ay, av⟩ := a
  obtain ⟨vk, ⟨vt, vs⟩, vv, vc, vca, vd⟩ := av
  obtain rfl : vk = ak := h
  rw [Bool.eq_iff_iff]
  simp [Ver.dep]
theorem hear_call_test (q : Call) (m : Word) (t : Int) (he : 0 ≤ q.end_) : (!wordOk m || (m.to != 10 + q.client) || (m.call != q.num) || !hasKey q.keys m.key || decide (0 < q.end_) || q.over || decide (t ≤ q.begin_)) =
    !(wordOk m && (m.to == 10 + q.client) && (m.call == q.num) && hasKey q.keys m.key && waitsC q && decide (q.begin_ < t)) := by
  have e1 : decide (0 < q.end_) = !(q.end_ == 0) := by rw [Bool.eq_iff_iff]; simp; omega
  have e2 : decide (t ≤ q.begin_) = !decide (q.begin_ < t) := by rw [Bool.eq_iff_iff]; simp
  unfold waitsC
  rw [e1, e2]; simp [bne, Bool.or_assoc]
theorem read_test (m : Word) : ((m.kind != 4) || (m.yes && ((m.vers.length : Int) != 1 || ((elt m.vers 0).key != m.key)))) = !decide (m.kind = 4 ∧ (m.yes = true → m.vers.length = 1 ∧ (elt m.vers 0).key = m.key)) := by
  have e : ((m.vers.length : Int) != 1) = !decide (m.vers.length = 1) := by rw [Bool.eq_iff_iff]; simp; omega
  rw [e, Bool.eq_iff_iff]
  cases m.yes <;> simp <;> omega
theorem c_spec_l31CameN (q : Call) (n : Value) (hg : ∀ y ∈ q.got, ansGood y = true) (hl : q.got.length ≤ 1048576) :
    Fn Tryz.prog 150 [q.avN n] (depsAV (cameD q)) := by
 refine Fn.intro 23 Tryz.func150 rfl Tryz.ntmps150 rfl (by kernel_rfl) (fun W I a hs => ?_)
 refine sr <| hs.o .bp fun hs => hs.sc fun hs => nn <| sr ?_
 refine hs.lit0 rfl un87 ty165 (by decide) fun b5 I a w hs => ?_
 obtain ⟨I, hs, hf⟩ := hs.freezeRow 0 rfl
 have hs := hs.upd (t := 5) rfl hf; clear hf
 have hs := hs.drop 0
 refine hs.s fun hs => nn <| wp_seq <| sr <| hs.sc fun hs => nn <| wp_block ?_
 refine St.lo (σ := Nat) (run 2 3 (run 16 6 [])) ⟨fun k => [(4, AV.int k), (3, depsAV ((q.got.take k).foldl joinStep []))], fun k => [], fun k => k ≤ q.got.length⟩ (fun k => q.got.length - k) 0 hs ?ok1 ?round1
 case ok1 => exact Nat.zero_le _
 case round1 =>
  rintro k I a w hok hs
  have hk : k ≤ q.got.length := hok
  refine wp_seq <| sr <| hs.m fun hs => hs.o .fp fun hs => hs.o .l1 fun hs => ?_
  refine hs.o .ln fun hs => ?_
  refine hs.o .lss fun hs => nn ?_
  refine hs.cd (fun hb1 => ?_) fun hb1 => ?_
  ·try simp only [B] at hb1
   refine wp_skip <| then_n <| wp_seq <| wp_block <| St.region <| hs.m fun hs => hs.o .fp fun hs => hs.o .l1 fun hs => hs.m fun hs => ?_
   refine hs.o .ix fun hs => ?_
   refine hs.o .fp fun hs => hs.o .fp fun hs => hs.o .l1 fun hs => ?_
   refine hs.o (.cl (c_spec_DepsJoin _ _ (join_fold (acc := []) rfl (goods_take hg k)).1 (ansGood_deps (hg _ (elt_mem hb1))))) fun hs => ?_
   refine hs.s fun hs => wpList_nil <| block_n <| then_n <| St.region <| hs.m fun hs => ?_
   refine hs.o .ad fun hs => ?_
   refine hs.s fun hs => nn ?_
   refine hs.again (k + 1) ?mu1 ?ok1001 (by rfl) ?env1001 (by repeat (first | exact Env.le_rfl | refine Env.le_push rfl ?_))
   case mu1 => omega
   case ok1001 => exact hb1
   case env1001 => exact (Env.le_consE rfl (by rfl) (Env.le_consE rfl (by exact congrArg depsAV (by rw [fold_take hb1]; rfl)) Env.le_nil))
  ·try simp only [B] at hb1
   refine wp_exit <| then_x <| then_x <| block_hit <| then_n <| sr <| hs.m fun hs => hs.s fun hs => nn <| wp_ret ?_
   refine hs.rt ?_
   exact congrArg depsAV (by rw [List.take_of_length_le (by omega)]; rfl)
set_option maxHeartbeats 4000000 in
theorem c_spec_l31Full (q : Call) (n : Value) (t : Int) (hg : ∀ y ∈ q.got, ansGood y = true) (hl : q.got.length ≤ 1048576) (hn : q.needs.length ≤ 1048576) :
    FnM Tryz.prog 167 [q.avN n, AV.int t] [Own.row n 165 3 (q.needs.map Dep.cells)] [] (endC { q with needs := q.needs ++ needsD q } t).av := by
 refine FnE.intro 54 Tryz.func167 rfl Tryz.ntmps167 rfl (by kernel_rfl) (fun W I a hs => ?_)
 have hcd : depsOk (cameD q) = true := (join_fold (l := q.got) (acc := []) rfl hg).1
 refine sr <| hs.box rfl .tt fun b2 I a w hs => hs.alloc rfl ty118 zc118 fun b4 I a w hs => nn <| sr <| hs.o (.ls 1) fun hs => hs.o (.c1 (c_spec_l31CameN q n hg hl)) fun hs => hs.s fun hs => nn <| wp_seq <| sr <| hs.sc fun hs => nn <| wp_block ?_
 refine St.lo (σ := Nat × Value) (run 2 6 (run 37 10 [])) ⟨fun ⟨k, v⟩ => [(6, AV.int k)], fun ⟨k, v⟩ => [Own.row v 165 3 ((needK q k).map Dep.cells), Own.box b2 118 [AV.int q.client, AV.int q.num, AV.int q.kind, intsAV q.keys, AV.int q.val, depsAV q.ctx, AV.int q.begin_, AV.int q.end_, AV.bool q.over, AV.int q.stamp.time, AV.int q.stamp.site, answersAV q.got, AV.val v], Own.box b4 118 [AV.val (.int .i64 0), AV.val (.int .i64 0), AV.val (.int .i64 0), AV.rows 1 [], AV.val (.int .i64 0), AV.rows 3 [], AV.val (.int .i64 0), AV.val (.int .i64 0), AV.val (.bool false), AV.val (.int .i64 0), AV.val (.int .i64 0), AV.rows 9 [], AV.rows 3 []]], fun ⟨k, v⟩ => k ≤ q.got.length⟩ (fun ⟨k, v⟩ => q.got.length - k) (0, n) hs ?ok1 ?round1
 case ok1 => exact Nat.zero_le _
 case round1 =>
  rintro ⟨k, v⟩ I a w hok hs
  have hk : k ≤ q.got.length := hok
  change St _ _ [Own.row v 165 3 ((needK q k).map Dep.cells), Own.box b2 118 [AV.int q.client, AV.int q.num, AV.int q.kind, intsAV q.keys, AV.int q.val, depsAV q.ctx, AV.int q.begin_, AV.int q.end_, AV.bool q.over, AV.int q.stamp.time, AV.int q.stamp.site, answersAV q.got, AV.val v], Own.box b4 118 [AV.val (.int .i64 0), AV.val (.int .i64 0), AV.val (.int .i64 0), AV.rows 1 [], AV.val (.int .i64 0), AV.rows 3 [], AV.val (.int .i64 0), AV.val (.int .i64 0), AV.val (.bool false), AV.val (.int .i64 0), AV.val (.int .i64 0), AV.rows 9 [], AV.rows 3 []]] _ _ _ at hs
  refine wp_seq <| sr <| hs.m fun hs => hs.o .fv fun hs => ?_
  refine hs.o (.lb 1) fun hs => ?_
  refine hs.o .ln fun hs => ?_
  refine hs.o .lss fun hs => nn ?_
  refine hs.cd (fun hb1 => ?_) fun hb1 => ?_
  ·try simp only [B] at hb1
   refine wp_skip <| then_n <| wp_seq <| wp_block <| sr <| hs.m fun hs => hs.o .fv fun hs => ?_
   refine hs.o (.lb 1) fun hs => hs.m fun hs => ?_
   refine hs.o .ix fun hs => ?_
   refine hs.o .fp fun hs => hs.o .l1 fun hs => ?_
   refine hs.o (.cl (c_spec_DepsAt _ _ hcd)) fun hs => ?_
   refine hs.alloc rfl ty115 zc115 fun b7 I a w hs => ?_
   refine hs.sb 3 fun hs => ?_
   obtain ⟨I, hs, hf⟩ := hs.freezeBox 3 rfl
   have hs := hs.upd (t := 7) rfl hf; clear hf
   refine nn <| wp_seq <| hs.dk <| .o .fv <| .o (.lb 1) <| .o .mv ?_
   refine .o .ix ?_
   refine .o .fp <| .o .fp ?_
   refine .o .la ?_
   refine .o .la ?_
   refine .o (.c2 (c_spec_StampLess ..)) <| .nil ?_
   intro I a w hs
   refine then_n ?_
   refine hs.cd (fun hb2 => ?_) fun hb2 => ?_
   ·skip
    refine hs.drawT 11 (by kernel_rfl) (by kernel_rfl) (by kernel_rfl) ?_
    simp only [List.take_succ_cons, List.take_zero, List.drop_succ_cons, List.drop_zero]
    refine .o .fv <| .o (.lb 1) <| .o .fv <| .o (.lb 1) <| .o .mv ?_
    refine .o .ix ?_
    refine .o .fp <| .o .l1 ?_
    refine .o .la ?_
    refine .o (.bd zc165 (.k (.t Parts.nil))) ?_
    refine .o (.li [Dep.cells ⟨(elt q.got k).key, atD (cameD q) (elt q.got k).key⟩] zo165 (.u .nil)) ?_
    refine .nil ?_
    intro I a w hs
    refine hs.append 0 rfl un87 ty165 rfl .tt .r rfl (by have := needK_len q k hk; simp; omega) fun v45 a w hs => ?_
    refine hs.o .fv fun hs => ?_
    try have ho45 := hs.oneRow 0 rfl
    refine hs.s1 1 fun hs => ?_
    refine wpList_nil ?_
    rw [snocD, needK_yes hb1 hb2] at hs
    refine block_n <| then_n <| St.region <| hs.m fun hs => ?_
    refine hs.o .ad fun hs => ?_
    refine hs.s fun hs => nn ?_
    have hs := hs.drop 3
    exact hs.ag (k + 1, v45) (hb1)
   ·skip
    refine wp_skip <| block_n <| then_n <| St.region <| hs.m fun hs => ?_
    refine hs.o .ad fun hs => ?_
    refine hs.s fun hs => nn ?_
    have hs := hs.drop 3
    rw [needK_no hb1 (by rw [hb2]; simp)] at hs
    exact hs.ag (k + 1, v) (hb1)
  ·try simp only [B] at hb1
   refine wp_exit <| then_x <| then_x <| block_hit <| then_n <| wp_seq <| wp_seq ?_
   rw [needK_all hk (by omega)] at hs
   refine St.region <| hs.o .fv fun hs => hs.o (.lb 1) fun hs => hs.o (ok_lenO 0 un87 .tt rfl) fun hs => hs.o .eqic fun hs => nn ?_
   refine hs.cd (fun hb3 => ?_) fun hb3 => ?_
   ·try simp only [B] at hb3
    refine St.region <| hs.m fun hs => hs.o .fv fun hs => ?_
    refine hs.s1 1 fun hs => ?_
    refine nn <| wp_seq ?_
    obtain ⟨I, hs, hf⟩ := hs.freezeRow 0 rfl
    have hs := hs.updBox (q := 12) 1 rfl rfl hf
    refine St.region <| hs.o (.ls 1) fun hs => ?_
    refine hs.sb 2 fun hs => ?_
    refine nn <| wp_ret ?_
    refine hs.retE () [] rfl (.cons (.s 2 ty118 rfl rfl (by first | rfl | assumption)) .nil) trivial rfl ?_
    exact (by unfold endC; rw [if_pos (by apply List.length_eq_zero_iff.1; rw [List.length_map] at hb3; exact Int.ofNat_eq_zero.1 hb3)]; rfl)
   ·try simp only [B] at hb3
    refine wp_skip <| then_n <| wp_seq ?_
    obtain ⟨I, hs, hf⟩ := hs.freezeRow 0 rfl
    have hs := hs.updBox (q := 12) 1 rfl rfl hf
    refine St.region <| hs.o (.ls 1) fun hs => ?_
    refine hs.sb 2 fun hs => ?_
    refine nn <| wp_ret ?_
    refine hs.retE () [] rfl (.cons (.s 2 ty118 rfl rfl (by first | rfl | assumption)) .nil) trivial rfl ?_
    exact (by unfold endC; rw [if_neg (fun e => hb3 (by rw [show q.needs ++ needsD q = [] from e]; rfl))]; rfl)
set_option maxHeartbeats 4000000 in
theorem c_spec_l31First (q : Call) (n : Value) (x : Answer) (t : Int) (hg : ∀ y ∈ q.got, ansGood y = true) (hx : ansGood x = true) (hl : q.got.length ≤ 1048575) (hkl : q.keys.length ≤ 1048576) (hn : q.needs.length ≤ 1048576) :
    FnM Tryz.prog 146 [q.avN n, x.av, AV.int t] [Own.row n 165 3 (q.needs.map Dep.cells)] [] (firstC q x t).av := by
 refine FnE.intro 62 Tryz.func146 rfl Tryz.ntmps146 rfl (by kernel_rfl) (fun W I a hs => ?_)
 refine sr <| hs.box rfl .tt fun b3 I a w hs => hs.o .bp fun hs => hs.alloc rfl ty118 zc118 fun b6 I a w hs => nn <| sr ?_
 refine hs.lit0 rfl un116 ty186 (by decide) fun b10 I a w hs => ?_
 refine hs.s fun hs => nn <| sr <| hs.sc fun hs => nn <| wp_seq <| sr <| hs.sc fun hs => nn <| wp_block ?_
 refine St.lo (σ := Nat × Bool × List Answer × Value) (run 3 7 (run 32 11 [])) ⟨fun ⟨k, done, out, v⟩ => [(9, AV.int k), (8, AV.bool done), (7, AV.val v)], fun ⟨k, done, out, v⟩ => [Own.row n 165 3 (q.needs.map Dep.cells), Own.box b3 118 [AV.int q.client, AV.int q.num, AV.int q.kind, intsAV q.keys, AV.int q.val, depsAV q.ctx, AV.int q.begin_, AV.int q.end_, AV.bool q.over, AV.int q.stamp.time, AV.int q.stamp.site, answersAV q.got, AV.val n], Own.box b6 118 [AV.val (.int .i64 0), AV.val (.int .i64 0), AV.val (.int .i64 0), AV.rows 1 [], AV.val (.int .i64 0), AV.rows 3 [], AV.val (.int .i64 0), AV.val (.int .i64 0), AV.val (.bool false), AV.val (.int .i64 0), AV.val (.int .i64 0), AV.rows 9 [], AV.rows 3 []], Own.row v 186 9 (out.map Answer.cells)], fun ⟨k, done, out, v⟩ => InsAAt q.got x k done out⟩ (fun ⟨k, done, out, v⟩ => q.got.length - k) (0, false, [], .slice (some ⟨b10, 0, none⟩) 0 0) hs ?ok1 ?round1
 case ok1 => exact InsAAt.zero q.got x
 case round1 =>
  rintro ⟨k, done, out, v⟩ I a w hok hs
  have hp : InsAAt q.got x k done out := hok
  have hk := hp.hk
  have hol := hp.len
  have hdn : done.toNat ≤ 1 := by cases done <;> simp
  change St _ _ [Own.row n 165 3 (q.needs.map Dep.cells), Own.box b3 118 [AV.int q.client, AV.int q.num, AV.int q.kind, intsAV q.keys, AV.int q.val, depsAV q.ctx, AV.int q.begin_, AV.int q.end_, AV.bool q.over, AV.int q.stamp.time, AV.int q.stamp.site, answersAV q.got, AV.val n], Own.box b6 118 [AV.val (.int .i64 0), AV.val (.int .i64 0), AV.val (.int .i64 0), AV.rows 1 [], AV.val (.int .i64 0), AV.rows 3 [], AV.val (.int .i64 0), AV.val (.int .i64 0), AV.val (.bool false), AV.val (.int .i64 0), AV.val (.int .i64 0), AV.rows 9 [], AV.rows 3 []], Own.row v 186 9 (out.map Answer.cells)] _ _ _ at hs
  refine wp_seq <| sr <| hs.m fun hs => hs.o .fv fun hs => ?_
  refine hs.o (.lb 1) fun hs => ?_
  refine hs.o .ln fun hs => ?_
  refine hs.o .lss fun hs => nn ?_
  refine hs.cd (fun hb1 => ?_) fun hb1 => ?_
  ·try simp only [B] at hb1
   refine wp_skip <| then_n <| wp_seq <| wp_block <| wp_seq <| wp_seq <| hs.dk <| .o .mv <| .o .nt <| .o .mv <| .q .T .fv ?_
   refine .q .T (.lbx 1 .ag) ?_
   refine .q .T .mv ?_
   refine .q .T .ix ?_
   refine .q .T (.fx .ag) ?_
   refine .q .T (.lx .ag) ?_
   refine .q .T .fp ?_
   refine .q .T (.lx .ag) ?_
   refine .q .T (ok_gtr .ag .ag) ?_
   refine .o .an <| .nil ?_
   intro I a w hs
   refine then_n ?_
   refine hs.cd (fun hb2 => ?_) fun hb2 => ?_
   ·simp only [B] at hb2
    refine sr <| hs.m fun hs => ?_
    refine hs.o .la fun hs => ?_
    refine hs.o (.li [x.cells] zo186 (.u .nil)) fun hs => ?_
    refine hs.append 3 rfl un116 ty186 rfl .tt .r rfl (by simp; omega) fun v34 a w hs => ?_
    rw [snocD] at hs
    refine hs.s fun hs => nn <| St.region <| hs.sc fun hs => nn <| St.region <| hs.m fun hs => hs.o .fv fun hs => ?_
    refine hs.o (.lb 1) fun hs => hs.m fun hs => ?_
    refine hs.o .ix fun hs => ?_
    refine hs.o .la fun hs => ?_
    refine hs.o (.li [(elt q.got k).cells] zo186 (.u .nil)) fun hs => ?_
    refine hs.append 3 rfl un116 ty186 rfl .tt .r rfl (by simp; omega) fun v42 a w hs => ?_
    rw [snocD] at hs
    refine hs.s fun hs => wpList_nil <| block_n <| then_n <| St.region <| hs.m fun hs => ?_
    refine hs.o .ad fun hs => ?_
    refine hs.s fun hs => nn ?_
    exact hs.ag (k + 1, true, (out ++ [x]) ++ [elt q.got k], v42) (by obtain ⟨h1, h2⟩ := hb2; subst h1; exact hp.before hb1 h2)
   ·simp only [B] at hb2
    refine wp_skip <| then_n <| St.region <| hs.m fun hs => hs.o .fv fun hs => ?_
    refine hs.o (.lb 1) fun hs => hs.m fun hs => ?_
    refine hs.o .ix fun hs => ?_
    refine hs.o .la fun hs => ?_
    refine hs.o (.li [(elt q.got k).cells] zo186 (.u .nil)) fun hs => ?_
    refine hs.append 3 rfl un116 ty186 rfl .tt .r rfl (by simp; omega) fun v42 a w hs => ?_
    rw [snocD] at hs
    refine hs.s fun hs => wpList_nil <| block_n <| then_n <| St.region <| hs.m fun hs => ?_
    refine hs.o .ad fun hs => ?_
    refine hs.s fun hs => nn ?_
    exact hs.ag (k + 1, done, out ++ [elt q.got k], v42) (hp.step hb1 (by rcases hb2 with h | h; exact .inl h; exact .inr (by omega)))
  ·try simp only [B] at hb1
   refine wp_exit <| then_x <| then_x <| block_hit <| then_n ?_
   refine St.cut (σ := Value) (7 :: (run 6 43 [])) ⟨fun v => [(7, AV.val v)], fun v => [Own.row n 165 3 (q.needs.map Dep.cells), Own.box b3 118 [AV.int q.client, AV.int q.num, AV.int q.kind, intsAV q.keys, AV.int q.val, depsAV q.ctx, AV.int q.begin_, AV.int q.end_, AV.bool q.over, AV.int q.stamp.time, AV.int q.stamp.site, answersAV q.got, AV.val n], Own.box b6 118 [AV.val (.int .i64 0), AV.val (.int .i64 0), AV.val (.int .i64 0), AV.rows 1 [], AV.val (.int .i64 0), AV.rows 3 [], AV.val (.int .i64 0), AV.val (.int .i64 0), AV.val (.bool false), AV.val (.int .i64 0), AV.val (.int .i64 0), AV.rows 9 [], AV.rows 3 []], Own.row v 186 9 ((insA q.got x).map Answer.cells)], fun v => True⟩ hs ?cutA10 ?cutB10
   case cutA10 =>
    refine sr <| hs.m fun hs => hs.o .nt fun hs => nn ?_
    refine hs.cd (fun hb3 => ?_) fun hb3 => ?_
    ·try simp only [B] at hb3
     refine St.region <| hs.m fun hs => ?_
     refine hs.o .la fun hs => ?_
     refine hs.o (.li [x.cells] zo186 (.u .nil)) fun hs => ?_
     refine hs.append 3 rfl un116 ty186 rfl .tt .r rfl (by simp; omega) fun v48 a w hs => ?_
     rw [snocD] at hs
     refine hs.s fun hs => nn ?_
     first | rw [show out ++ [x] = insA q.got x from by subst hb3; exact hp.endF (by omega)] at hs | rw [show out = insA q.got x from by subst hb3; exact hp.endT (by omega)] at hs
     exact hs.me v48 (by trivial)
    ·try simp only [B] at hb3
     refine wp_skip <| then_n ?_
     first | rw [show out ++ [x] = insA q.got x from by subst hb3; exact hp.endF (by omega)] at hs | rw [show out = insA q.got x from by subst hb3; exact hp.endT (by omega)] at hs
     exact hs.me v (by trivial)
   case cutB10 =>
    rintro v I a w hok hs
    refine wp_seq ?_
    obtain ⟨I, hs, hf⟩ := hs.freezeRow 3 rfl
    have hs := hs.upd (t := 7) rfl hf; clear hf
    refine St.region <| hs.m fun hs => hs.o .fv fun hs => ?_
    try have ho49 := hs.oneRow 3 rfl
    refine hs.s1 1 fun hs => ?_
    refine nn <| wp_seq <| sr <| hs.o .fv fun hs => hs.o (.lb 1) fun hs => ?_
    refine hs.o .ln fun hs => ?_
    refine hs.o .fv fun hs => hs.o (.lb 1) fun hs => ?_
    refine hs.o .ln fun hs => ?_
    refine hs.o .lss fun hs => nn ?_
    refine hs.cd (fun hb4 => ?_) fun hb4 => ?_
    ·try simp only [B] at hb4
     refine wp_seq ?_
     obtain ⟨I, hs, hf⟩ := hs.freezeRow 0 rfl
     have hs := hs.updBox (q := 12) 1 rfl rfl hf
     refine St.region <| hs.o (.ls 1) fun hs => ?_
     refine hs.sb 2 fun hs => ?_
     refine nn <| wp_ret <| then_r ?_
     refine hs.retE () [] rfl (.cons (.s 2 ty118 rfl rfl (by first | rfl | assumption)) .nil) trivial rfl ?_
     exact (by unfold firstC; dsimp only; rw [if_pos (by simpa using hb4)]; rfl)
    ·try simp only [B] at hb4
     refine wp_skip <| then_n <| sr <| hs.o (.ls 1) fun hs => hs.m fun hs => ?_
     refine hs.callM [0] (c_spec_l31Full { q with got := insA q.got x } n t (fun y hy => (insA_mem.1 hy).elim (fun e => e ▸ hx) (hg y)) (by show (insA q.got x).length ≤ _; rw [insA_len]; omega) hn) (args_cons .tt (args_cons .tt args_nil)) rfl (by decide) rfl fun I a w hs => ?_
     refine hs.sb 2 fun hs => ?_
     refine nn <| wp_ret ?_
     refine hs.retE () [] rfl (.cons (.s 2 ty118 rfl rfl (by first | rfl | assumption)) .nil) trivial rfl ?_
     exact (by unfold firstC; dsimp only; rw [if_neg (by simpa using hb4)]; rfl)
theorem second_end (q : Call) (x : Answer) (k : Nat) : (((((leftK q x k).map Dep.cells).length : Int) == 0) && decide (0 < (q.needs.length : Int))) = decide (leftK q x k = [] ∧ q.needs ≠ []) := by
  rw [List.length_map, Bool.eq_iff_iff]
  simp
  intro _
  exact ⟨fun h e => by rw [e] at h; simp at h, fun h => by cases hq : q.needs with | nil => exact absurd hq h | cons _ _ => simp⟩
theorem second_got {q : Call} {t : Int} (h : CallGood q t) {x : Answer} {k : Nat} (hk : k < q.needs.length) (he : elt q.needs k = x.ver.dep) (hx : x.ver.key = x.key) : 0 ≤ gotI q x.key := by
  have := h.need _ (elt_mem hk)
  unfold needGood at this
  rw [Bool.and_eq_true, decide_eq_true_eq, he] at this
  rw [← hx]; exact this.1
set_option maxHeartbeats 4000000 in
theorem c_spec_l31Second (q : Call) (g : Value) (x : Answer) (t t0 : Int) (h : CallGood q t0) (hxk : x.ver.key = x.key) :
    FnM Tryz.prog 147 [q.avG g, x.av, AV.int t] [Own.row g 186 9 (q.got.map Answer.cells)] [] (secondC q x t).av := by
 refine FnE.intro 68 Tryz.func147 rfl Tryz.ntmps147 rfl (by kernel_rfl) (fun W I a hs => ?_)
 have hln := h.lens
 refine sr <| hs.box rfl .tt fun b3 I a w hs => hs.o .bp fun hs => hs.alloc rfl ty118 zc118 fun b6 I a w hs => nn <| sr ?_
 refine hs.lit0 rfl un87 ty165 (by decide) fun b9 I a w hs => ?_
 refine hs.s fun hs => nn <| wp_seq <| sr <| hs.sc fun hs => nn <| wp_block ?_
 refine St.lo (σ := Nat × Value) (run 2 7 (run 44 10 [])) ⟨fun ⟨k, v⟩ => [(8, AV.int k), (7, AV.val v)], fun ⟨k, v⟩ => [Own.row g 186 9 ((gotK q x k).map Answer.cells), Own.box b3 118 [AV.int q.client, AV.int q.num, AV.int q.kind, intsAV q.keys, AV.int q.val, depsAV q.ctx, AV.int q.begin_, AV.int q.end_, AV.bool q.over, AV.int q.stamp.time, AV.int q.stamp.site, AV.val g, depsAV q.needs], Own.box b6 118 [AV.val (.int .i64 0), AV.val (.int .i64 0), AV.val (.int .i64 0), AV.rows 1 [], AV.val (.int .i64 0), AV.rows 3 [], AV.val (.int .i64 0), AV.val (.int .i64 0), AV.val (.bool false), AV.val (.int .i64 0), AV.val (.int .i64 0), AV.rows 9 [], AV.rows 3 []], Own.row v 165 3 ((leftK q x k).map Dep.cells)], fun ⟨k, v⟩ => k ≤ q.needs.length⟩ (fun ⟨k, v⟩ => q.needs.length - k) (0, .slice (some ⟨b9, 0, none⟩) 0 0) hs ?ok1 ?round1
 case ok1 => exact Nat.zero_le _
 case round1 =>
  rintro ⟨k, v⟩ I a w hok hs
  have hk : k ≤ q.needs.length := hok
  change St _ _ [Own.row g 186 9 ((gotK q x k).map Answer.cells), Own.box b3 118 [AV.int q.client, AV.int q.num, AV.int q.kind, intsAV q.keys, AV.int q.val, depsAV q.ctx, AV.int q.begin_, AV.int q.end_, AV.bool q.over, AV.int q.stamp.time, AV.int q.stamp.site, AV.val g, depsAV q.needs], Own.box b6 118 [AV.val (.int .i64 0), AV.val (.int .i64 0), AV.val (.int .i64 0), AV.rows 1 [], AV.val (.int .i64 0), AV.rows 3 [], AV.val (.int .i64 0), AV.val (.int .i64 0), AV.val (.bool false), AV.val (.int .i64 0), AV.val (.int .i64 0), AV.rows 9 [], AV.rows 3 []], Own.row v 165 3 ((leftK q x k).map Dep.cells)] _ _ _ at hs
  refine wp_seq <| sr <| hs.m fun hs => hs.o .fv fun hs => ?_
  refine hs.o (.lb 1) fun hs => ?_
  refine hs.o .ln fun hs => ?_
  refine hs.o .lss fun hs => nn ?_
  refine hs.cd (fun hb1 => ?_) fun hb1 => ?_
  ·try simp only [B] at hb1
   refine wp_skip <| then_n <| wp_seq <| wp_block <| wp_seq <| wp_seq <| hs.dk <| .o .fv <| .o (.lb 1) <| .o .mv ?_
   refine .o .ix ?_
   refine .o .fp <| .o .l1 <| .o .fp <| .o .l1 <| .o .eqi <| .o .mv <| .q .T .fv ?_
   refine .q .T (.lbx 1 .ag) ?_
   refine .q .T .mv ?_
   refine .q .T .ix ?_
   refine .q .T (.fx .ag) ?_
   refine .q .T .la ?_
   refine .q .T .fp ?_
   refine .q .T (.fx .ag) ?_
   refine .q .T .la ?_
   refine .q .T (ok_eqS [_, _] [_, _] eqt115 rfl rfl .ag .ag) ?_
   refine .o .an <| .nil ?_
   intro I a w hs
   refine then_n ?_
   refine hs.cd (fun hb2 => ?_) fun hb2 => ?_
   ·rw [second_test _ x hxk, decide_eq_true_eq] at hb2
    have hgi := second_got h hb1 hb2 hxk
    obtain ⟨hg1, hg2⟩ := gotI_elt hgi
    rw [gotK_first h.needs hb1 hb2] at hs
    obtain ⟨bg, capg, eg⟩ := hs.rowBlock 0 rfl (by simp only [List.length_map]; omega)
    subst eg
    refine wp_seq ?_
    refine hs.drawT 8 (by kernel_rfl) (by kernel_rfl) (by kernel_rfl) ?_
    simp only [List.take_succ_cons, List.take_zero, List.drop_succ_cons, List.drop_zero]
    refine .o .fv <| .o (.lb 1) <| .o (.ls 1) <| .o .fp <| .o .l1 <| .o (ok_callB (cs := [AV.int q.client, AV.int q.num, AV.int q.kind, intsAV q.keys, AV.int q.val, depsAV q.ctx, AV.int q.begin_, AV.int q.end_, AV.bool q.over, AV.int q.stamp.time, AV.int q.stamp.site, .val (.slice (some ⟨bg, 0, none⟩) (q.got.map Answer.cells).length capg), depsAV q.needs]) 0 11 (args_cons .tt (args_cons .tt args_nil)) rfl rfl (c_spec_l31Got q x.key) (fun _ _ _ h => h)) ?_
    refine .o .la ?_
    refine .o (ok_idxO un116 ty186 .tt .tt (fun _ => by simp only [List.length_map]; omega)) ?_
    refine .nil ?_
    intro I a w hs
    refine hs.storeRS 0 ty186 .tt .tt rfl (by exact map_get (by omega)) rfl rfl fun a w hs => ?_
    refine nn <| wp_exit <| then_x <| block_hit <| then_n <| St.region <| hs.m fun hs => ?_
    refine hs.o .ad fun hs => ?_
    refine hs.s fun hs => nn ?_
    have e9 : ∀ y, y = x.cells → (List.map Answer.cells q.got).set (gotI q x.key).toNat y = List.map Answer.cells (gotK q x (k + 1)) := fun y hy => by rw [hy, gotK_hit hb1 hb2, List.map_set]
    rw [e9, leftK_hit hb1 hb2] at hs
    rotate_left
    ·rfl
    exact hs.ag (k + 1, v) (hb1)
   ·rw [second_test _ x hxk, decide_eq_false_iff_not] at hb2
    refine wp_skip <| then_n <| St.region <| hs.m fun hs => hs.o .fv fun hs => ?_
    refine hs.o (.lb 1) fun hs => hs.m fun hs => ?_
    refine hs.o .ix fun hs => ?_
    refine hs.o .la fun hs => ?_
    refine hs.o (.li [(elt q.needs k).cells] zo165 (.u .nil)) fun hs => ?_
    refine hs.append 3 rfl un87 ty165 rfl .tt .r rfl (by have := leftK_len q x k; simp; omega) fun v53 a w hs => ?_
    rw [snocD, leftK_miss hb1 hb2, gotK_miss hb1 hb2] at hs
    refine hs.s fun hs => wpList_nil <| block_n <| then_n <| St.region <| hs.m fun hs => ?_
    refine hs.o .ad fun hs => ?_
    refine hs.s fun hs => nn ?_
    exact hs.ag (k + 1, v53) (hb1)
  ·try simp only [B] at hb1
   refine wp_exit <| then_x <| then_x <| block_hit <| then_n <| wp_seq <| sr <| hs.m fun hs => hs.o (ok_lenO 3 un87 .tt rfl) fun hs => hs.o .eqic fun hs => hs.m fun hs => hs.q .T .fv fun hs => ?_
   refine hs.q .T (.lbx 1 .ag) fun hs => ?_
   refine hs.q .T .ln fun hs => ?_
   refine hs.q .T (ok_gtr .ag .c) fun hs => ?_
   refine hs.o .an fun hs => nn ?_
   refine hs.cd (fun hb3 => ?_) fun hb3 => ?_
   ·rw [second_end, decide_eq_true_eq] at hb3
    refine St.region <| hs.m fun hs => hs.o .fv fun hs => ?_
    refine hs.s1 1 fun hs => ?_
    refine nn <| wp_seq ?_
    obtain ⟨I, hs, hf⟩ := hs.freezeRow 3 rfl
    have hs := hs.upd (t := 7) rfl hf; clear hf
    refine St.region <| hs.m fun hs => hs.o .fv fun hs => ?_
    try have ho65 := hs.oneRow 3 rfl
    refine hs.s1 1 fun hs => ?_
    refine nn <| wp_seq ?_
    obtain ⟨I, hs, hf⟩ := hs.freezeRow 0 rfl
    have hs := hs.updBox (q := 11) 1 rfl rfl hf
    refine St.region <| hs.o (.ls 1) fun hs => ?_
    refine hs.sb 2 fun hs => ?_
    refine nn <| wp_ret ?_
    refine hs.retE () [] rfl (.cons (.s 2 ty118 rfl rfl (by first | rfl | assumption)) .nil) trivial rfl ?_
    exact (by rw [secondC_all (k := k) (by omega), if_pos hb3]; rfl)
   ·rw [second_end, decide_eq_false_iff_not] at hb3
    refine wp_skip <| then_n <| wp_seq ?_
    obtain ⟨I, hs, hf⟩ := hs.freezeRow 3 rfl
    have hs := hs.upd (t := 7) rfl hf; clear hf
    refine St.region <| hs.m fun hs => hs.o .fv fun hs => ?_
    try have ho65 := hs.oneRow 3 rfl
    refine hs.s1 1 fun hs => ?_
    refine nn <| wp_seq ?_
    obtain ⟨I, hs, hf⟩ := hs.freezeRow 0 rfl
    have hs := hs.updBox (q := 11) 1 rfl rfl hf
    refine St.region <| hs.o (.ls 1) fun hs => ?_
    refine hs.sb 2 fun hs => ?_
    refine nn <| wp_ret ?_
    refine hs.retE () [] rfl (.cons (.s 2 ty118 rfl rfl (by first | rfl | assumption)) .nil) trivial rfl ?_
    exact (by rw [secondC_all (k := k) (by omega), if_neg hb3]; rfl)
end Go.Proofs.YtkoebplikhlapaaGreatDoor
