/- Part 20: rules of the proofs, contracts of functions, plain facts. -/
import Derived.Test.YtkoebplikhlapaaGreatDoorP19
set_option linter.unusedVariables false
set_option linter.unusedSimpArgs false
set_option maxRecDepth 100000
namespace Go.Proofs.YtkoebplikhlapaaGreatDoor
open Go Go.RowKit
theorem snocD {α : Type} {f : α → List AV} (l : List α) (x : α) : l.map f ++ [f x] = (l ++ [x]).map f := by simp
theorem c_spec_DepsAt (l : List Dep) (key : Int) (hl : depsOk l = true) :
    Fn Tryz.prog 172 [depsAV l, AV.int key] ((atD l key).av) := by
 refine Fn.intro 29 Tryz.func172 rfl Tryz.ntmps172 rfl (by kernel_rfl) (fun W I a hs => ?_)
 have hle := hs.lenleM (t := 0) rfl
 refine sr <| hs.alloc rfl ty115 zc115 fun b4 I a w hs => nn <| wp_seq <| sr <| hs.m fun hs => ?_
 refine hs.o (.cl (c_spec_DepsOk ..)) fun hs => ?_
 refine hs.o .nt fun hs => nn ?_
 refine hs.cd (fun hb1 => ?_) fun hb1 => ?_
 ·exfalso; rw [hl] at hb1; cases hb1
  skip
 ·skip
  refine wp_skip <| then_n <| wp_seq <| sr <| hs.sc fun hs => nn <| wp_block ?_
  refine St.lo (σ := Nat) (5 :: (run 18 10 [])) ⟨fun k => [(5, AV.int k)], fun k => [Own.box b4 115 [AV.val (.int .i64 0), AV.val (.int .i64 0)]], fun k => k ≤ l.length ∧ ∀ i, i < k → depIsKey key (elt l i) = false⟩ (fun k => l.length - k) 0 hs ?ok1 ?round1
  case ok1 => exact ⟨Nat.zero_le _, fun i hi => by omega⟩
  case round1 =>
   rintro k I a w hok hs
   obtain ⟨hk, hall⟩ := hok
   refine wp_seq <| sr <| hs.m fun hs => hs.m fun hs => ?_
   refine hs.o .ln fun hs => ?_
   refine hs.o .lss fun hs => nn ?_
   refine hs.cd (fun hb2 => ?_) fun hb2 => ?_
   ·try simp only [B] at hb2
    refine wp_skip <| then_n <| wp_seq <| wp_block <| sr <| hs.m fun hs => hs.m fun hs => ?_
    refine hs.o .ix fun hs => ?_
    refine hs.o .fp fun hs => hs.o .l1 fun hs => hs.m fun hs => hs.o .eqi fun hs => nn ?_
    refine hs.cd (fun hb3 => ?_) fun hb3 => ?_
    ·skip
     refine sr <| hs.m fun hs => hs.m fun hs => ?_
     refine hs.o .ix fun hs => ?_
     refine hs.o .fp fun hs => ?_
     refine hs.o .la fun hs => ?_
     refine hs.sb 0 fun hs => ?_
     refine nn <| wp_ret <| block_r <| then_r <| then_r <| block_r <| then_r ?_
     refine hs.ret rfl (.cons (.s 0 ty115 rfl rfl (by first | rfl | assumption)) ResL.nil) ?_
     exact (by rw [find_hit hb2 hall hb3]; rfl)
    ·skip
     refine wp_skip <| block_n <| then_n <| St.region <| hs.m fun hs => ?_
     refine hs.o .ad fun hs => ?_
     refine hs.s fun hs => nn ?_
     exact hs.ag (k + 1) (⟨hb2, fun i h1 => by rcases Nat.lt_succ_iff_lt_or_eq.1 h1 with h | h; exact hall i h; rw [h]; exact hb3⟩)
   ·try simp only [B] at hb2
    refine wp_exit <| then_x <| then_x <| block_hit <| then_n <| sr ?_
    refine hs.o (.bd zc115 Parts.nil) fun hs => ?_
    refine hs.sb 0 fun hs => ?_
    refine nn <| wp_ret ?_
    refine hs.ret rfl (.cons (.s 0 ty115 rfl rfl (by first | rfl | assumption)) ResL.nil) ?_
    exact (by rw [find_none (by omega) hall]; rfl)
set_option maxHeartbeats 4000000 in
theorem c_spec_DepsPut (l : List Dep) (d : Dep) (hl : depsOk l = true) (hd : depOk d = true) :
    Fn Tryz.prog 148 [depsAV l, d.av] (depsAV (putD l d)) := by
 refine Fn.intro 85 Tryz.func148 rfl Tryz.ntmps148 rfl (by kernel_rfl) (fun W I a hs => ?_)
 have hl6 := depsOk_len6 hl
 have hd1 := depOk_one d
 refine sr <| hs.box rfl .tt fun b3 I a w hs => hs.sc fun hs => nn <| wp_seq <| sr <| hs.m fun hs => ?_
 refine hs.o (.cl (c_spec_DepsOk ..)) fun hs => ?_
 refine hs.o .nt fun hs => hs.m fun hs => ?_
 refine hs.q .F (.ls 0) fun hs => ?_
 refine hs.q .F (.li [_] zo165 (.u .nil)) fun hs => ?_
 refine hs.q .F (.cl (c_spec_DepsOk [d])) fun hs => ?_
 refine hs.q .F (.ntx .ag) fun hs => ?_
 refine hs.o .or fun hs => nn ?_
 refine hs.cd (fun hb1 => ?_) fun hb1 => ?_
 ·exfalso; rw [hl, hd1, hd] at hb1; cases hb1
  skip
 ·skip
  refine wp_skip <| then_n <| sr ?_
  refine hs.lit0 rfl un87 ty165 (by decide) fun b18 I a w hs => ?_
  refine hs.s fun hs => nn <| sr <| hs.sc fun hs => nn <| wp_seq <| sr <| hs.sc fun hs => nn <| wp_block ?_
  refine St.lo (σ := Nat × Bool × List Dep × Value × Dep) (run 3 5 (run 59 19 [])) ⟨fun ⟨k, done, out, v, e⟩ => [(7, AV.int k), (6, AV.bool done), (5, AV.val v)], fun ⟨k, done, out, v, e⟩ => [Own.box b3 165 e.cells, Own.row v 165 3 (out.map Dep.cells)], fun ⟨k, done, out, v, e⟩ => PutAt l d k done out ∧ e.key = d.key ∧ (done = false → e = d)⟩ (fun ⟨k, done, out, v, e⟩ => l.length - k) (0, false, [], .slice (some ⟨b18, 0, none⟩) 0 0, d) hs ?ok1 ?round1
  case ok1 => exact ⟨PutAt.zero l d, rfl, fun _ => rfl⟩
  case round1 =>
   rintro ⟨k, done, out, v, e⟩ I a w hok hs
   obtain ⟨hp, hek, hed⟩ := hok
   have hk := hp.hk
   have hol := hp.len
   have hdn : done.toNat ≤ 1 := by cases done <;> simp
   change St _ _ [Own.box b3 165 e.cells, Own.row v 165 3 (out.map Dep.cells)] _ _ _ at hs
   refine wp_seq <| sr <| hs.m fun hs => hs.m fun hs => ?_
   refine hs.o .ln fun hs => ?_
   refine hs.o .lss fun hs => nn ?_
   refine hs.cd (fun hb2 => ?_) fun hb2 => ?_
   ·try simp only [B] at hb2
    refine wp_skip <| then_n <| wp_seq <| wp_block <| wp_seq <| wp_seq <| hs.dk <| .o .mv <| .o .nt <| .o .mv <| .q .T .mv <| .q .T .mv ?_
    refine .q .T .ix ?_
    refine .q .T (.fx .ag) ?_
    refine .q .T (.lx .ag) ?_
    refine .q .T .fv ?_
    refine .q .T (.lbx 0 .ag) ?_
    refine .q .T (ok_geq .ag .ag) ?_
    refine .o .an <| .nil ?_
    intro I a w hs
    refine then_n ?_
    refine hs.cd (fun hb3 => ?_) fun hb3 => ?_
    ·try simp only [B] at hb3
     refine wp_seq <| wp_seq <| hs.dk <| .o .mv <| .o .mv ?_
     refine .o .ix ?_
     refine .o .fp <| .o .l1 <| .o .fv <| .o (.lb 0) <| .o .eqi <| .o .mv <| .q .T .fv ?_
     refine .q .T (ok_loadBS 0 ty115 .ag rfl rfl rfl) ?_
     refine .q .T .mv <| .q .T .mv ?_
     refine .q .T .ix ?_
     refine .q .T (.fx .ag) ?_
     refine .q .T .la ?_
     refine .q .T (.cl (c_spec_StampLess ..)) ?_
     refine .o .an <| .nil ?_
     intro I a w hs
     refine then_n ?_
     refine hs.cd (fun hb4 => ?_) fun hb4 => ?_
     ·try simp only [B] at hb4
      refine St.region <| hs.m fun hs => hs.m fun hs => ?_
      refine hs.o .ix fun hs => ?_
      refine hs.o .la fun hs => ?_
      refine hs.sb 0 fun hs => ?_
      refine nn <| sr <| hs.m fun hs => ?_
      refine hs.o (.ls 0) fun hs => ?_
      refine hs.o (.li [(elt l k).cells] zo165 (.u .nil)) fun hs => ?_
      refine hs.append 1 rfl un87 ty165 rfl .tt .r rfl (by simp; omega) fun v62 a w hs => ?_
      rw [snocD] at hs
      refine hs.s fun hs => nn <| St.region <| hs.sc fun hs => nn <| wp_seq <| hs.dk <| .o .mv <| .o .mv ?_
      refine .o .ix ?_
      refine .o .fp <| .o .l1 <| .o .fv <| .o (.lb 0) <| .o .nei <| .nil ?_
      intro I a w hs
      refine then_n ?_
      refine hs.cd (fun hb5 => ?_) fun hb5 => ?_
      ·exfalso; simp at hb5
       skip
      ·try simp only [B] at hb5
       refine wp_skip <| block_n <| then_n <| St.region <| hs.m fun hs => ?_
       refine hs.o .ad fun hs => ?_
       refine hs.s fun hs => nn ?_
       exact hs.ag (k + 1, true, out ++ [elt l k], v62, elt l k) (by obtain ⟨h1, h2⟩ := hb3; obtain rfl := hed h1; subst h1; have h := (hp.same hl hb2 hb4.1).2; rw [← putD_pick _ _ hb4.1, if_pos hb4.2] at h; exact ⟨h, hb4.1, fun h => by cases h⟩)
     ·try simp only [B] at hb4
      refine wp_skip <| then_n <| sr <| hs.m fun hs => ?_
      refine hs.o (.ls 0) fun hs => ?_
      refine hs.o (.li [e.cells] zo165 (.u .nil)) fun hs => ?_
      refine hs.append 1 rfl un87 ty165 rfl .tt .r rfl (by simp; omega) fun v62 a w hs => ?_
      rw [snocD] at hs
      refine hs.s fun hs => nn <| St.region <| hs.sc fun hs => nn <| wp_seq <| hs.dk <| .o .mv <| .o .mv ?_
      refine .o .ix ?_
      refine .o .fp <| .o .l1 <| .o .fv <| .o (.lb 0) <| .o .nei <| .nil ?_
      intro I a w hs
      refine then_n ?_
      refine hs.cd (fun hb6 => ?_) fun hb6 => ?_
      ·try simp only [B] at hb6
       refine St.region <| hs.m fun hs => hs.m fun hs => hs.m fun hs => ?_
       refine hs.o .ix fun hs => ?_
       refine hs.o .la fun hs => ?_
       refine hs.o (.li [(elt l k).cells] zo165 (.u .nil)) fun hs => ?_
       refine hs.append 1 rfl un87 ty165 rfl .tt .r rfl (by simp; omega) fun v77 a w hs => ?_
       rw [snocD] at hs
       refine hs.s fun hs => wpList_nil <| block_n <| then_n <| St.region <| hs.m fun hs => ?_
       refine hs.o .ad fun hs => ?_
       refine hs.s fun hs => nn ?_
       exact hs.ag (k + 1, true, (out ++ [e]) ++ [elt l k], v77, e) (by obtain ⟨h1, h2⟩ := hb3; obtain rfl := hed h1; subst h1; exact ⟨hp.before hl hb2 (by omega), rfl, fun h => by cases h⟩)
      ·try simp only [B] at hb6
       refine wp_skip <| block_n <| then_n <| St.region <| hs.m fun hs => ?_
       refine hs.o .ad fun hs => ?_
       refine hs.s fun hs => nn ?_
       exact hs.ag (k + 1, true, out ++ [e], v62, e) (by obtain ⟨h1, h2⟩ := hb3; obtain rfl := hed h1; subst h1; have h := (hp.same hl hb2 hb6).2; rw [← putD_pick _ _ hb6, if_neg (by rcases hb4 with h4 | h4; exact absurd hb6 h4; rw [h4]; simp)] at h; exact ⟨h, rfl, fun h => by cases h⟩)
    ·try simp only [B] at hb3
     refine wp_skip <| then_n <| wp_seq <| hs.dk <| .o .mv <| .o .mv ?_
     refine .o .ix ?_
     refine .o .fp <| .o .l1 <| .o .fv <| .o (.lb 0) <| .o .nei <| .nil ?_
     intro I a w hs
     refine then_n ?_
     refine hs.cd (fun hb7 => ?_) fun hb7 => ?_
     ·try simp only [B] at hb7
      refine St.region <| hs.m fun hs => hs.m fun hs => hs.m fun hs => ?_
      refine hs.o .ix fun hs => ?_
      refine hs.o .la fun hs => ?_
      refine hs.o (.li [(elt l k).cells] zo165 (.u .nil)) fun hs => ?_
      refine hs.append 1 rfl un87 ty165 rfl .tt .r rfl (by simp; omega) fun v77 a w hs => ?_
      rw [snocD] at hs
      refine hs.s fun hs => wpList_nil <| block_n <| then_n <| St.region <| hs.m fun hs => ?_
      refine hs.o .ad fun hs => ?_
      refine hs.s fun hs => nn ?_
      exact hs.ag (k + 1, done, out ++ [elt l k], v77, e) (⟨hp.step hb2 (by omega) fun hd => by (rcases hb3 with h | h; (rw [hd] at h; cases h); omega), hek, hed⟩)
     ·exfalso; simp only [bne_eq_false_iff_eq] at hb7; rcases hb3 with h | h; (have := hp.late h k (Nat.le_refl _) hb2; omega); omega
      skip
   ·try simp only [B] at hb2
    refine wp_exit <| then_x <| then_x <| block_hit <| then_n <| wp_seq <| sr <| hs.m fun hs => hs.o .nt fun hs => nn ?_
    refine hs.cd (fun hb8 => ?_) fun hb8 => ?_
    ·try simp only [B] at hb8
     refine St.region <| hs.m fun hs => ?_
     refine hs.o (.ls 0) fun hs => ?_
     refine hs.o (.li [e.cells] zo165 (.u .nil)) fun hs => ?_
     refine hs.append 1 rfl un87 ty165 rfl .tt .r rfl (by simp; omega) fun v83 a w hs => ?_
     rw [snocD] at hs
     refine hs.s fun hs => nn <| sr <| hs.m fun hs => hs.s fun hs => nn <| wp_ret ?_
     obtain ⟨I, hs, hf⟩ := hs.freezeRow 1 rfl
     have hs := hs.upd (t := 4) rfl hf; clear hf
     refine hs.rt ?_
     exact congrArg (AV.rows 3) (by obtain rfl := hed hb8; subst hb8; exact hp.endF (by omega) ▸ rfl)
    ·try simp only [B] at hb8
     refine wp_skip <| then_n <| sr <| hs.m fun hs => hs.s fun hs => nn <| wp_ret ?_
     obtain ⟨I, hs, hf⟩ := hs.freezeRow 1 rfl
     have hs := hs.upd (t := 4) rfl hf; clear hf
     refine hs.rt ?_
     exact congrArg (AV.rows 3) (by subst hb8; rw [hp.endT (by omega)])
theorem c_spec_DepsJoin (x y : List Dep) (hx : depsOk x = true) (hy : depsOk y = true) :
    Fn Tryz.prog 149 [depsAV x, depsAV y] (depsAV (joinD x y)) := by
 refine Fn.intro 32 Tryz.func149 rfl Tryz.ntmps149 rfl (by kernel_rfl) (fun W I a hs => ?_)
 have hl6 := depsOk_len6 hx
 have hl6y := depsOk_len6 hy
 refine sr <| hs.sc fun hs => nn <| wp_seq <| sr <| hs.m fun hs => ?_
 refine hs.o (.cl (c_spec_DepsOk ..)) fun hs => ?_
 refine hs.o .nt fun hs => hs.m fun hs => hs.q .F .mv fun hs => ?_
 refine hs.q .F (.cl (c_spec_DepsOk ..)) fun hs => ?_
 refine hs.q .F (.ntx .ag) fun hs => ?_
 refine hs.o .or fun hs => nn ?_
 refine hs.cd (fun hb1 => ?_) fun hb1 => ?_
 ·exfalso; rw [hx, hy] at hb1; cases hb1
  skip
 ·skip
  refine wp_skip <| then_n <| sr ?_
  refine hs.lit0 rfl un87 ty165 (by decide) fun b16 I a w hs => ?_
  refine hs.m fun hs => ?_
  refine hs.append 0 rfl un87 ty165 rfl .tt .r rfl (by simp; omega) fun v18 a w hs => ?_
  obtain ⟨I, hs, hf⟩ := hs.freezeRow 0 rfl
  have hs := hs.upd (t := 18) rfl hf; clear hf
  have hs := hs.drop 0
  refine hs.s fun hs => nn <| wp_seq <| sr <| hs.sc fun hs => nn <| wp_block ?_
  refine St.lo (σ := Nat) (run 2 5 (run 12 19 [])) ⟨fun k => [(6, AV.int k), (5, depsAV (joinD x (y.take k)))], fun k => [], fun k => k ≤ y.length⟩ (fun k => y.length - k) 0 hs ?ok1 ?round1
  case ok1 => exact Nat.zero_le _
  case round1 =>
   rintro k I a w hok hs
   have hk : k ≤ y.length := hok
   refine wp_seq <| sr <| hs.m fun hs => hs.m fun hs => ?_
   refine hs.o .ln fun hs => ?_
   refine hs.o .lss fun hs => nn ?_
   refine hs.cd (fun hb2 => ?_) fun hb2 => ?_
   ·try simp only [B] at hb2
    refine wp_skip <| then_n <| wp_seq <| wp_block <| St.region <| hs.m fun hs => hs.m fun hs => hs.m fun hs => ?_
    refine hs.o .ix fun hs => ?_
    refine hs.o .la fun hs => ?_
    refine hs.o (.cl (c_spec_DepsPut _ _ (depsOk_join_take hx hy k) (depsOk_all hy (elt_mem hb2)))) fun hs => ?_
    refine hs.s fun hs => wpList_nil <| block_n <| then_n <| St.region <| hs.m fun hs => ?_
    refine hs.o .ad fun hs => ?_
    refine hs.s fun hs => nn ?_
    refine hs.again (k + 1) ?mu1 ?ok1001 (by rfl) ?env1001 (by repeat (first | exact Env.le_rfl | refine Env.le_push rfl ?_))
    case mu1 => omega
    case ok1001 => exact hb2
    case env1001 => exact (Env.le_consE rfl (by rfl) (Env.le_consE rfl (by exact congrArg depsAV (by rw [joinD_take hb2])) Env.le_nil))
   ·try simp only [B] at hb2
    refine wp_exit <| then_x <| then_x <| block_hit <| then_n <| sr <| hs.m fun hs => hs.s fun hs => nn <| wp_ret ?_
    refine hs.rt ?_
    exact congrArg depsAV (by rw [List.take_of_length_le (by omega)])
theorem fold_take {α β : Type} [Inhabited β] {f : α → β → α} {z : α} {l : List β} {k : Nat} (h : k < l.length) : (l.take (k + 1)).foldl f z = f ((l.take k).foldl f z) (elt l k) := by
  rw [take_elt h, List.foldl_append]; rfl
theorem goods_take {l : List Answer} (h : ∀ a ∈ l, ansGood a = true) (k : Nat) : ∀ a ∈ l.take k, ansGood a = true := fun a ha => h a (List.mem_of_mem_take ha)
theorem c_spec_l31Came (q : Call) (hg : ∀ y ∈ q.got, ansGood y = true) :
    Fn Tryz.prog 150 [q.av] (depsAV (cameD q)) := by
 refine Fn.intro 23 Tryz.func150 rfl Tryz.ntmps150 rfl (by kernel_rfl) (fun W I a hs => ?_)
 have lens : q.keys.length ≤ 9223372036854775807 ∧ q.got.length ≤ 9223372036854775807 ∧ q.needs.length ≤ 9223372036854775807 := by
    obtain ⟨cs, _, hc⟩ := hs.env 0 _ rfl
    obtain ⟨u1, _, h1, _⟩ := hc.get (i := 3) rfl
    obtain ⟨u2, _, h2, _⟩ := hc.get (i := 11) rfl
    obtain ⟨u3, _, h3, _⟩ := hc.get (i := 12) rfl
    exact ⟨rows_le h1, rows_le h2, rows_le h3⟩
 refine sr <| hs.o .bp fun hs => hs.sc fun hs => nn <| sr ?_
 refine hs.lit0 rfl un87 ty165 (by decide) fun b5 I a w hs => ?_
 obtain ⟨I, hs, hf⟩ := hs.freezeRow 0 rfl
 have hs := hs.upd (t := 5) rfl hf; clear hf
 have hs := hs.drop 0
 refine hs.s fun hs => nn <| wp_seq <| sr <| hs.sc fun hs => nn <| wp_block ?_
 refine St.lo (σ := Nat) (run 2 3 (run 16 6 [])) ⟨fun k => [(4, AV.int k), (3, depsAV ((q.got.take k).foldl joinStep []))], fun k => [], fun k => k ≤ q.got.length⟩ (fun k => q.got.length - k) 0 hs ?ok1 ?round1
 case ok1 => exact Nat.zero_le _
 case round1 =>
  rintro k I a w hok hs
  have hk : k ≤ q.got.length := hok
  refine wp_seq <| sr <| hs.m fun hs => hs.o .fp fun hs => hs.o .l1 fun hs => ?_
  refine hs.o .ln fun hs => ?_
  refine hs.o .lss fun hs => nn ?_
  refine hs.cd (fun hb1 => ?_) fun hb1 => ?_
  ·try simp only [B] at hb1
   refine wp_skip <| then_n <| wp_seq <| wp_block <| St.region <| hs.m fun hs => hs.o .fp fun hs => hs.o .l1 fun hs => hs.m fun hs => ?_
   refine hs.o .ix fun hs => ?_
   refine hs.o .fp fun hs => hs.o .fp fun hs => hs.o .l1 fun hs => ?_
   refine hs.o (.cl (c_spec_DepsJoin _ _ (join_fold (acc := []) rfl (goods_take hg k)).1 (ansGood_deps (hg _ (elt_mem hb1))))) fun hs => ?_
   refine hs.s fun hs => wpList_nil <| block_n <| then_n <| St.region <| hs.m fun hs => ?_
   refine hs.o .ad fun hs => ?_
   refine hs.s fun hs => nn ?_
   refine hs.again (k + 1) ?mu1 ?ok1001 (by rfl) ?env1001 (by repeat (first | exact Env.le_rfl | refine Env.le_push rfl ?_))
   case mu1 => omega
   case ok1001 => exact hb1
   case env1001 => exact (Env.le_consE rfl (by rfl) (Env.le_consE rfl (by exact congrArg depsAV (by rw [fold_take hb1]; rfl)) Env.le_nil))
  ·try simp only [B] at hb1
   refine wp_exit <| then_x <| then_x <| block_hit <| then_n <| sr <| hs.m fun hs => hs.s fun hs => nn <| wp_ret ?_
   refine hs.rt ?_
   exact congrArg depsAV (by rw [List.take_of_length_le (by omega)]; rfl)
theorem keysOk_put {q : Call} (h : keysOk q = true) (hk : q.kind = 1) : 0 < q.keys.length := by
  unfold keysOk at h
  rw [Bool.and_eq_true] at h
  have := h.2
  simp [hk] at this; omega
theorem saw_dep {q : Call} {t : Int} (h : callOk q t = true) (hk : q.kind = 1) (he : ¬ q.end_ = 0) : depOk ⟨elt q.keys 0, q.stamp⟩ = true := by
  have hp := callOk_parts h
  have hks : keysUp q.keys = true := by have := hp.2.2.1; unfold keysOk at this; rw [Bool.and_eq_true] at this; exact this.1
  have h1 := keysUp_key hks (elt_mem (keysOk_put hp.2.2.1 hk))
  simp only [callOk, callHead, Bool.and_eq_true] at h
  have hst : stampFits q.stamp = true := h.1.1.1.2
  have hend := h.2
  unfold callEnd at hend
  rw [if_neg he] at hend
  simp [hk] at hend
  simp only [stampFits, hend.2, Bool.false_or] at hst
  simp [depOk, h1, hst]
set_option maxHeartbeats 4000000 in
theorem c_spec_CallSaw (q : Call) (t : Int) (hq : callOk q t = true) (ht : q.begin_ + q.end_ ≤ 4611686018427387904) (hl : -4611686018427387904 ≤ q.end_) (hgl : q.got.length ≤ 1048576) :
    Fn Tryz.prog 115 [q.av] (depsAV (sawD q)) := by
 refine Fn.intro 68 Tryz.func115 rfl Tryz.ntmps115 rfl (by kernel_rfl) (fun W I a hs => ?_)
 have lens : q.keys.length ≤ 9223372036854775807 ∧ q.got.length ≤ 9223372036854775807 ∧ q.needs.length ≤ 9223372036854775807 := by
    obtain ⟨cs, _, hc⟩ := hs.env 0 _ rfl
    obtain ⟨u1, _, h1, _⟩ := hc.get (i := 3) rfl
    obtain ⟨u2, _, h2, _⟩ := hc.get (i := 11) rfl
    obtain ⟨u3, _, h3, _⟩ := hc.get (i := 12) rfl
    exact ⟨rows_le h1, rows_le h2, rows_le h3⟩
 have hp := callOk_parts hq
 have hcd := (join_fold (acc := []) rfl hp.2.1).1
 have hown := callOk_own hq
 have hc6 := depsOk_len6 hp.1
 have hjo : depsOk (joinD q.ctx (cameD q)) = true := depsOk_join hp.1 fun d hd => depsOk_all hcd hd
 have hse := saw_eq hp.1 hp.2.1
 refine sr <| hs.o .bp fun hs => hs.sc fun hs => nn <| wp_seq <| sr ?_
 refine hs.o .la fun hs => ?_
 refine hs.o .fp fun hs => hs.o .l1 fun hs => hs.o .fp fun hs => hs.o .l1 fun hs => ?_
 refine hs.o .ad fun hs => ?_
 refine hs.o (.c2 (c_spec_CallOk _ _ ht hgl)) fun hs => hs.o .nt fun hs => nn ?_
 refine hs.cd (fun hb1 => ?_) fun hb1 => ?_
 ·exfalso; rw [hown] at hb1; cases hb1
  skip
 ·skip
  refine wp_skip <| then_n <| sr ?_
  refine hs.lit0 rfl un87 ty165 (by decide) fun b14 I a w hs => ?_
  refine hs.o .fp fun hs => hs.o .l1 fun hs => ?_
  refine hs.append 0 rfl un87 ty165 rfl .tt .r rfl (by simp; omega) fun v17 a w hs => ?_
  obtain ⟨I, hs, hf⟩ := hs.freezeRow 0 rfl
  have hs := hs.upd (t := 17) rfl hf; clear hf
  have hs := hs.drop 0
  refine hs.s fun hs => nn <| wp_seq <| sr <| hs.o .fp fun hs => hs.o .l1 fun hs => hs.o .eqic fun hs => nn ?_
  refine hs.cd (fun hb2 => ?_) fun hb2 => ?_
  ·try simp only [B] at hb2
   refine sr <| hs.m fun hs => hs.s fun hs => nn <| wp_ret <| then_r ?_
   refine hs.rt ?_
   exact congrArg depsAV (by unfold sawD; rw [if_pos hb2])
  ·try simp only [B] at hb2
   refine wp_skip <| then_n <| wp_seq <| sr <| hs.o .fp fun hs => hs.o .l1 fun hs => hs.o .eqic fun hs => nn ?_
   refine hs.cd (fun hb3 => ?_) fun hb3 => ?_
   ·try simp only [B] at hb3
    refine wp_seq <| hs.dk <| .o .mv <| .o .fp <| .o .l1 ?_
    refine .o ((by first | exact ok_idxN un54 ty3 .tt .c (fun _ => by have := keysOk_put hp.2.2.1 hb3; omega) | exact ok_idxM un54 ty3 .tt .c (fun _ => by have := keysOk_put hp.2.2.1 hb3; omega) | exact ok_idx un54 ty3 .tt .c (fun _ => by have := keysOk_put hp.2.2.1 hb3; omega))) ?_
    refine .o .l1 <| .o .fp ?_
    refine .o .la ?_
    refine .o (.bd zc165 (.k (.t Parts.nil))) ?_
    refine .o (.cl (c_spec_DepsPut _ ⟨elt q.keys 0, q.stamp⟩ hp.1 (saw_dep hq hb3 hb2))) ?_
    refine .o .as <| .nil ?_
    intro I a w hs
    refine then_n <| wp_ret <| then_r ?_
    refine hs.rt ?_
    exact congrArg depsAV (by unfold sawD; rw [if_neg hb2, if_pos hb3])
   ·try simp only [B] at hb3
    refine wp_skip <| then_n <| sr <| hs.m fun hs => ?_
    refine hs.o .la fun hs => ?_
    refine hs.o (.c1 (c_spec_l31Came _ hp.2.1)) fun hs => ?_
    refine hs.o (.cl (c_spec_DepsJoin _ _ hp.1 hcd)) fun hs => ?_
    refine hs.s fun hs => nn <| wp_seq <| sr <| hs.sc fun hs => nn <| wp_block ?_
    refine St.lo (σ := Nat) (run 2 3 (run 29 38 [])) ⟨fun k => [(4, AV.int k), (3, depsAV ((q.got.take k).foldl sawStep2 (joinD q.ctx (cameD q))))], fun k => [], fun k => k ≤ q.got.length⟩ (fun k => q.got.length - k) 0 hs ?ok1 ?round1
    case ok1 => exact Nat.zero_le _
    case round1 =>
     rintro k I a w hok hs
     have hk : k ≤ q.got.length := hok
     refine wp_seq <| sr <| hs.m fun hs => hs.o .fp fun hs => hs.o .l1 fun hs => ?_
     refine hs.o .ln fun hs => ?_
     refine hs.o .lss fun hs => nn ?_
     refine hs.cd (fun hb4 => ?_) fun hb4 => ?_
     ·try simp only [B] at hb4
      refine wp_skip <| then_n <| wp_seq <| wp_block <| sr <| hs.o .fp fun hs => hs.o .l1 fun hs => hs.m fun hs => ?_
      refine hs.o .ix fun hs => ?_
      refine hs.o .fp fun hs => hs.o .l1 fun hs => nn ?_
      refine hs.cd (fun hb5 => ?_) fun hb5 => ?_
      ·try simp only [B] at hb5
       refine hs.dk <| .o .mv <| .o .fp <| .o .l1 <| .o .mv ?_
       refine .o .ix ?_
       refine .o .fp <| .o .l1 <| .o .fp <| .o .l1 <| .o .mv ?_
       refine .o .ix ?_
       refine .o .fp <| .o .fp ?_
       refine .o .la ?_
       refine .o (.bd zc165 (.k (.t Parts.nil))) ?_
       refine .o (ok_call (c_spec_DepsPut _ ⟨(elt q.got k).key, (elt q.got k).ver.stamp⟩ (saw2_fold hjo (goods_take hp.2.1 k)).1 (by have := ansGood_dep (hp.2.1 _ (elt_mem hb4)) hb5; rw [← this.2]; exact this.1)) (args_cons .r (args_cons (.t rfl) args_nil))) ?_
       refine .o .as <| .nil ?_
       intro I a w hs
       refine block_n <| then_n <| St.region <| hs.m fun hs => ?_
       refine hs.o .ad fun hs => ?_
       refine hs.s fun hs => nn ?_
       refine hs.again (k + 1) ?mu1 ?ok1001 (by rfl) ?env1001 (by repeat (first | exact Env.le_rfl | refine Env.le_push rfl ?_))
       case mu1 => omega
       case ok1001 => exact hb4
       case env1001 => exact (Env.le_consE rfl (by rfl) (Env.le_consE rfl (by exact congrArg depsAV (by rw [fold_take hb4]; unfold sawStep2; rw [hb5]; rfl)) Env.le_nil))
      ·try simp only [B] at hb5
       refine wp_skip <| block_n <| then_n <| St.region <| hs.m fun hs => ?_
       refine hs.o .ad fun hs => ?_
       refine hs.s fun hs => nn ?_
       refine hs.again (k + 1) ?mu2 ?ok1002 (by rfl) ?env1002 (by repeat (first | exact Env.le_rfl | refine Env.le_push rfl ?_))
       case mu2 => omega
       case ok1002 => exact hb4
       case env1002 => exact (Env.le_consE rfl (by rfl) (Env.le_consE rfl (by exact congrArg depsAV (by rw [fold_take hb4]; unfold sawStep2; rw [hb5]; rfl)) Env.le_nil))
     ·try simp only [B] at hb4
      refine wp_exit <| then_x <| then_x <| block_hit <| then_n <| sr <| hs.m fun hs => hs.s fun hs => nn <| wp_ret ?_
      refine hs.rt ?_
      exact congrArg depsAV (by rw [List.take_of_length_le (by omega), ← hse]; unfold sawD2; rw [if_neg hb2, if_neg hb3])
end Go.Proofs.YtkoebplikhlapaaGreatDoor
