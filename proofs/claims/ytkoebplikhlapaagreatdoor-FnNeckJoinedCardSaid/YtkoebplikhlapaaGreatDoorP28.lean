/- Part 28: rules of the proofs, contracts of functions, plain facts. -/
import Derived.Test.YtkoebplikhlapaaGreatDoorP27
set_option linter.unusedVariables false
set_option linter.unusedSimpArgs false
set_option maxRecDepth 100000
namespace Go.Proofs.YtkoebplikhlapaaGreatDoor
open Go Go.RowKit
def takeK (s : Server) (m : Word) (i j k : Nat) : Server :=
  { dropS s m.slot with slots := (dropS s m.slot).slots.set m.slot.toNat ⟨m.epoch, 1⟩, vers := putAll (dropS s m.slot).vers (m.vers.take i), waits := putAll (dropS s m.slot).waits (m.waits.take j), owes := (m.owes.take k).foldl addD (dropS s m.slot).owes }
theorem takeK_all (s : Server) (m : Word) {i j k : Nat} (hi : m.vers.length ≤ i) (hj : m.waits.length ≤ j) (hk : m.owes.length ≤ k) : takeK s m i j k = takeS s m := by
  unfold takeK takeS
  rw [List.take_of_length_le hi, List.take_of_length_le hj, List.take_of_length_le hk]
theorem putAll_chain {l vs : List Ver} (hl : chainOk l = true) (hv : chainOk vs = true) (hn : l.length + vs.length ≤ 80) : ∀ k, k ≤ vs.length → chainOk (putAll l (vs.take k)) = true
  | 0, _ => by simpa [putAll] using hl
  | k + 1, hk => by
    have h1 := putAll_chain hl hv hn k (by omega)
    have h2 := putAll_len l vs k
    rw [putAll_take (by omega)]
    exact addV_chain h1 (chain_all hv _ (elt_mem (by omega))) (by omega)
theorem c_putTake {l vs : List Ver} {k : Nat} (hl : chainOk l = true) (hv : chainOk vs = true) (hn : l.length + vs.length ≤ 80) (hk : k < vs.length) : Fn Tryz.prog 160 [versAV (putAll l (vs.take k)), (elt vs k).av] (AV.tup [versAV (putAll l (vs.take (k + 1))), AV.bool (canPut (putAll l (vs.take k)) (elt vs k))]) := by
  have h2 := putAll_len l vs k
  have := c_spec_ChainPut (putAll l (vs.take k)) (elt vs k) (putAll_chain hl hv hn k (by omega))
  rwa [addV_put (chain_all hv _ (elt_mem hk)) (by omega), ← putAll_take hk] at this
theorem c_addTake {l ds : List Dep} {k : Nat} (hn : l.length + ds.length ≤ 80) (hk : k < ds.length) : Fn Tryz.prog 161 [depsAV ((ds.take k).foldl addD l), (elt ds k).av] (depsAV ((ds.take (k + 1)).foldl addD l)) := by
  have h2 := addAll_len' l ds k
  have := c_spec_l21PutDep ((ds.take k).foldl addD l) (elt ds k) (by omega)
  rwa [← addAll_take hk] at this
theorem hearBulk_0 {s : Server} {m : Word} (h : ((m.frm == twinI s.site) && decide (1 ≤ m.epoch)) = false) : hearBulk s m = (s, []) := by unfold hearBulk; rw [h]; rfl
theorem hearBulk_1 {s : Server} {m : Word} (h : ((m.frm == twinI s.site) && decide (1 ≤ m.epoch)) = true) (h2 : m.epoch ≤ (elt s.slots m.slot.toNat).epoch) : hearBulk s m = (s, [bulkOkW s m]) := by unfold hearBulk; rw [h, if_pos rfl, if_pos h2]
theorem hearBulk_2 {s : Server} {m : Word} (h : ((m.frm == twinI s.site) && decide (1 ≤ m.epoch)) = true) (h2 : ¬ m.epoch ≤ (elt s.slots m.slot.toNat).epoch) (h3 : (bulkFits s m && serverOk (takeS s m)) = false) : hearBulk s m = (s, []) := by unfold hearBulk; rw [h, if_pos rfl, if_neg h2, h3]; rfl
theorem hearBulk_3 {s : Server} {m : Word} (h : ((m.frm == twinI s.site) && decide (1 ≤ m.epoch)) = true) (h2 : ¬ m.epoch ≤ (elt s.slots m.slot.toNat).epoch) (h3 : (bulkFits s m && serverOk (takeS s m)) = true) : hearBulk s m = (settleS (takeS s m), [bulkOkW s m]) := by unfold hearBulk; rw [h, if_pos rfl, if_neg h2, h3]; rfl
set_option maxHeartbeats 4000000 in
theorem c_spec_l22Bulk (s : Server) (m : Word) (hg : SrvGood s) (hm : wordOk m = true) :
    Fn Tryz.prog 126 [s.av, m.av] (AV.tup [(hearBulk s m).1.av, wordsAV (hearBulk s m).2]) := by
 refine Fn.intro 158 Tryz.func126 rfl Tryz.ntmps126 rfl (by kernel_rfl) (fun W I a hs => ?_)
 have hok := serverOk_iff.2 hg
 have hso := hg.ok
 have hwl := wordOk_lists hm
 have hsl := wordOk_slot hm
 have h3 := hg.slots
 have h4 : (dropS s m.slot).slots.length = 3 := h3
 have hdr := hso.drop m.slot
 have hdv := chain_len hdr.vers
 have hmv := chain_len hwl.1
 have hmw := chain_len hwl.2.1
 have hmo := debts_len hwl.2.2.1
 have hdw := chain_len hdr.waits
 have hdo := debts_len (hg.dropS m.slot).owes
 have lens : m.deps.length ≤ 9223372036854775807 ∧ m.vers.length ≤ 9223372036854775807 ∧ m.waits.length ≤ 9223372036854775807 ∧ m.owes.length ≤ 9223372036854775807 := by
    obtain ⟨cs, _, hc⟩ := hs.env 1 _ rfl
    obtain ⟨u0, _, h0, _⟩ := hc.get (i := 9) rfl
    obtain ⟨u1, _, h1, _⟩ := hc.get (i := 12) rfl
    obtain ⟨u2, _, h2, _⟩ := hc.get (i := 13) rfl
    obtain ⟨u3, _, h3, _⟩ := hc.get (i := 14) rfl
    exact ⟨rows_le h0, rows_le h1, rows_le h2, rows_le h3⟩
 have hol := debts_len hg.owes
 have e9 : ∀ x, x = Slot.cells ⟨m.epoch, 1⟩ → (List.map Slot.cells (dropS s m.slot).slots).set m.slot.toNat x = List.map Slot.cells (takeK s m 0 0 0).slots := fun x h => by rw [h]; exact List.map_set.symm
 refine sr <| hs.o .bp fun hs => hs.o .bp fun hs => hs.alloc rfl ty89 zc89 fun b4 I a w hs => hs.sc fun hs => nn <| sr ?_
 refine hs.lit0 rfl un37 ty135 (by decide) fun b12 I a w hs => ?_
 obtain ⟨I, hs, hf⟩ := hs.freezeRow 1 rfl
 have hs := hs.upd (t := 12) rfl hf; clear hf
 refine hs.s fun hs => nn <| wp_seq <| wp_seq <| hs.dk <| .o .fp <| .o .l1 <| .o .fp <| .o .l1 <| .o (.c1 (c_spec_l21Twin _ hg.site)) <| .o .nei <| .o .mv <| .q .F .fp ?_
 refine .q .F (.lx .ag) ?_
 refine .q .F (ok_lss .ag .c) ?_
 refine .o .or <| .nil ?_
 intro I a w hs
 refine then_n ?_
 refine hs.cd (fun hb1 => ?_) fun hb1 => ?_
 ·rw [bulk_test s m] at hb1; replace hb1 := nt hb1
  refine sr ?_
  refine hs.o .la fun hs => ?_
  refine hs.m fun hs => ?_
  refine hs.sb 0 fun hs => ?_
  refine hs.s fun hs => nn <| wp_ret <| then_r ?_
  refine hs.ret rfl (.cons (.s 0 ty89 rfl rfl (by first | rfl | assumption)) (.cons (by first | exact .t rfl | exact .nil rfl) ResL.nil)) ?_
  exact (by rw [hearBulk_0 hb1]; rfl)
 ·rw [bulk_test s m] at hb1; replace hb1 := nf hb1
  refine wp_skip <| then_n <| sr <| hs.o .fp fun hs => hs.o .l1 fun hs => hs.o .fp fun hs => hs.o .l1 fun hs => hs.o .fp fun hs => hs.o .l1 fun hs => hs.o .fp fun hs => hs.o .l1 fun hs => ?_
  refine hs.o (.bd zc135 (.k (.k (.k (.k (.k Parts.nil)))))) fun hs => ?_
  refine hs.alloc rfl ty135 zc135 fun b7 I a w hs => ?_
  refine hs.sb 2 fun hs => ?_
  obtain ⟨I, hs, hf⟩ := hs.freezeBox 2 rfl
  have hs := hs.upd (t := 7) rfl hf; clear hf
  refine nn <| wp_seq <| wp_seq <| hs.dk <| .o .fp <| .o .l1 <| .o .fp <| .o .l1 <| .o .fp <| .o .l1 ?_
  refine .o .ix ?_
  refine .o .fp <| .o .l1 <| .o .leq <| .nil ?_
  intro I a w hs
  refine then_n ?_
  refine hs.cd (fun hb2 => ?_) fun hb2 => ?_
  ·skip
   refine wp_seq ?_
   refine hs.drawD [([], none), ([], none), ([], none), ([0], some (0, [])), ([], none)] (by kernel_rfl) (by kernel_rfl) rfl ?_
   refine .o .la ?_
   refine .o .la ?_
   refine .o (.li [(bulkOkW s m).cells] zo135 (.u .nil)) ?_
   refine RunD.eff (x := AV.any) 0 (fun F W0 I0 I a w Q hs kk => hs.sb 0 fun hs => kk _ _ _ hs) ?_
   refine .o .as <| .nil ?_
   intro I a w hs
   refine then_n <| wp_ret <| then_r ?_
   refine hs.ret rfl (.cons (.s 0 ty89 rfl rfl (by first | rfl | assumption)) (.cons (by first | exact .t rfl | exact .nil rfl) ResL.nil)) ?_
   exact (by rw [hearBulk_1 hb1 (by simpa using hb2)]; rfl)
  ·skip
   refine wp_skip <| then_n <| sr ?_
   refine hs.o .la fun hs => ?_
   refine hs.o .fp fun hs => hs.o .l1 fun hs => ?_
   refine hs.o (ok_call (c_spec_l21Drop s m.slot hso.vers hso.waits (by omega)) (args_cons (.t rfl) (args_cons (.t rfl) args_nil))) fun hs => ?_
   refine hs.alloc rfl ty89 zc89 fun b8 I a w hs => ?_
   refine hs.sb 3 fun hs => ?_
   refine nn <| wp_seq <| sr <| hs.o .fv fun hs => hs.o (.lb 3) fun hs => ?_
   refine hs.o .ln fun hs => ?_
   refine hs.o .fp fun hs => hs.o .l1 fun hs => ?_
   refine hs.o .ln fun hs => ?_
   refine hs.o .ad fun hs => ?_
   refine hs.o .gtrc fun hs => hs.m fun hs => hs.q .F .fv fun hs => ?_
   refine hs.q .F (.lbx 3 .ag) fun hs => ?_
   refine hs.q .F .ln fun hs => ?_
   refine hs.q .F .fp fun hs => ?_
   refine hs.q .F (.lx .ag) fun hs => ?_
   refine hs.q .F .ln fun hs => ?_
   refine hs.q .F .ad fun hs => ?_
   refine hs.q .F (ok_gtr .ag .c) fun hs => ?_
   refine hs.o .or fun hs => hs.m fun hs => hs.q .F .fv fun hs => ?_
   refine hs.q .F (.lbx 3 .ag) fun hs => ?_
   refine hs.q .F .ln fun hs => ?_
   refine hs.q .F .fp fun hs => ?_
   refine hs.q .F (.lx .ag) fun hs => ?_
   refine hs.q .F .ln fun hs => ?_
   refine hs.q .F .ad fun hs => ?_
   refine hs.q .F (ok_gtr .ag .c) fun hs => ?_
   refine hs.o .or fun hs => nn ?_
   refine hs.cd (fun hb3 => ?_) fun hb3 => ?_
   ·rw [fits_test s m] at hb3; replace hb3 := nt hb3
    refine sr ?_
    refine hs.o .la fun hs => ?_
    refine hs.m fun hs => ?_
    refine hs.sb 0 fun hs => ?_
    refine hs.s fun hs => nn <| wp_ret <| then_r ?_
    refine hs.ret rfl (.cons (.s 0 ty89 rfl rfl (by first | rfl | assumption)) (.cons (by first | exact .t rfl | exact .nil rfl) ResL.nil)) ?_
    exact (by rw [hearBulk_2 hb1 (by simpa using hb2) (by rw [hb3]; rfl)]; rfl)
   ·rw [fits_test s m] at hb3; replace hb3 := nf hb3
    refine wp_skip <| then_n <| sr ?_
    refine hs.lit0 rfl un85 ty100 (by decide) fun b82 I a w hs => ?_
    refine hs.o .fv fun hs => hs.o (.lb 3) fun hs => ?_
    refine hs.append 4 rfl un85 ty100 rfl .tt .r rfl (by simp; omega) fun v85 a w hs => ?_
    refine hs.o .fv fun hs => ?_
    try have ho85 := hs.oneRow 4 rfl
    refine hs.s1 3 fun hs => ?_
    refine nn <| wp_seq ?_
    simp only [List.nil_append] at hs
    obtain ⟨b85, cap85, e85⟩ := hs.rowBlock 4 rfl (by simp only [List.length_map]; omega)
    subst e85
    refine St.region <| hs.o .fv fun hs => hs.o (.lb 3) fun hs => hs.o .fp fun hs => hs.o .l1 fun hs => hs.o .fp fun hs => hs.o .l1 fun hs => ?_
    refine hs.o (.bd zc100 (.k (.k Parts.nil))) fun hs => ?_
    refine hs.o (ok_idxO un85 ty100 .tt .tt (fun _ => by simp only [List.length_map]; omega)) fun hs => ?_
    refine hs.storeRS 4 ty100 .tt .tt rfl (by exact map_get (by omega)) rfl rfl fun a w hs => ?_
    refine nn <| wp_seq <| wp_seq ?_
    rw [e9] at hs
    rotate_left
    ·rfl
    obtain ⟨I, hs, hf⟩ := hs.freezeRow 4 rfl
    have hs := hs.updBox (q := 2) 3 rfl rfl hf
    refine St.region <| hs.sc fun hs => nn <| wp_block ?_
    refine St.lo (σ := Nat) (9 :: (run 19 95 [])) ⟨fun i => [(9, AV.int i)], fun i => [Own.box b4 89 [AV.val (.int .i64 0), AV.val (.bool false), AV.rows 2 [], AV.rows 7 [], AV.rows 7 [], AV.rows 3 [], AV.rows 3 []], Own.gone, Own.gone, Own.box b8 89 (takeK s m i 0 0).cells, Own.gone], fun i => i ≤ m.vers.length⟩ (fun i => m.vers.length - i) 0 hs ?ok1 ?round1
    case ok1 => exact Nat.zero_le _
    case round1 =>
     rintro i I a w hok hs
     have hi : i ≤ m.vers.length := hok
     change St _ _ [Own.box b4 89 [AV.val (.int .i64 0), AV.val (.bool false), AV.rows 2 [], AV.rows 7 [], AV.rows 7 [], AV.rows 3 [], AV.rows 3 []], Own.gone, Own.gone, Own.box b8 89 (takeK s m i 0 0).cells, Own.gone] _ _ _ at hs
     refine wp_seq <| sr <| hs.m fun hs => hs.o .fp fun hs => hs.o .l1 fun hs => ?_
     refine hs.o .ln fun hs => ?_
     refine hs.o .lss fun hs => nn ?_
     refine hs.cd (fun hb4 => ?_) fun hb4 => ?_
     ·try simp only [B] at hb4
      refine wp_skip <| then_n <| wp_seq <| wp_block ?_
      refine hs.drawD [([], none), ([3], none), ([], none), ([], none), ([], none), ([], none), ([], none), ([], none), ([], none), ([], none), ([], none), ([], none), ([3], some (3, []))] (by kernel_rfl) (by kernel_rfl) rfl ?_
      refine .o .fv ?_
      refine .r [3] (.lb 3) ?_
      refine .o .fp <| .o .l1 <| .o .mv ?_
      refine .o .ix ?_
      refine .o .la ?_
      refine .o (.cl (c_putTake hdr.vers hwl.1 (bulkFits_parts hb3).1 hb4)) ?_
      refine .o .mv <| .o .e <| .o .e <| .o .fv ?_
      refine RunD.eff (x := AV.any) 3 (fun F W0 I0 I a w Q hs kk => hs.s1 3 fun hs => kk _ _ _ hs) ?_
      refine .nil ?_
      intro I a w hs
      refine block_n <| then_n <| St.region <| hs.m fun hs => ?_
      refine hs.o .ad fun hs => ?_
      refine hs.s fun hs => nn ?_
      exact hs.ag (i + 1) (hb4)
     ·try simp only [B] at hb4
      refine wp_exit <| then_x <| then_x <| block_hit <| then_n <| wp_seq <| sr <| hs.sc fun hs => nn <| wp_block ?_
      refine St.lo (σ := Nat) (10 :: (run 19 114 [])) ⟨fun j => [(10, AV.int j)], fun j => [Own.box b4 89 [AV.val (.int .i64 0), AV.val (.bool false), AV.rows 2 [], AV.rows 7 [], AV.rows 7 [], AV.rows 3 [], AV.rows 3 []], Own.gone, Own.gone, Own.box b8 89 (takeK s m i j 0).cells, Own.gone], fun j => j ≤ m.waits.length⟩ (fun j => m.waits.length - j) 0 hs ?ok2 ?round2
      case ok2 => exact Nat.zero_le _
      case round2 =>
       rintro j I a w hok hs
       have hj : j ≤ m.waits.length := hok
       change St _ _ [Own.box b4 89 [AV.val (.int .i64 0), AV.val (.bool false), AV.rows 2 [], AV.rows 7 [], AV.rows 7 [], AV.rows 3 [], AV.rows 3 []], Own.gone, Own.gone, Own.box b8 89 (takeK s m i j 0).cells, Own.gone] _ _ _ at hs
       refine wp_seq <| sr <| hs.m fun hs => hs.o .fp fun hs => hs.o .l1 fun hs => ?_
       refine hs.o .ln fun hs => ?_
       refine hs.o .lss fun hs => nn ?_
       refine hs.cd (fun hb5 => ?_) fun hb5 => ?_
       ·try simp only [B] at hb5
        refine wp_skip <| then_n <| wp_seq <| wp_block ?_
        refine hs.drawD [([], none), ([3], none), ([], none), ([], none), ([], none), ([], none), ([], none), ([], none), ([], none), ([], none), ([], none), ([], none), ([3], some (3, []))] (by kernel_rfl) (by kernel_rfl) rfl ?_
        refine .o .fv ?_
        refine .r [3] (.lb 3) ?_
        refine .o .fp <| .o .l1 <| .o .mv ?_
        refine .o .ix ?_
        refine .o .la ?_
        refine .o (.cl (c_putTake hdr.waits hwl.2.1 (bulkFits_parts hb3).2.1 hb5)) ?_
        refine .o .mv <| .o .e <| .o .e <| .o .fv ?_
        refine RunD.eff (x := AV.any) 3 (fun F W0 I0 I a w Q hs kk => hs.s1 3 fun hs => kk _ _ _ hs) ?_
        refine .nil ?_
        intro I a w hs
        refine block_n <| then_n <| St.region <| hs.m fun hs => ?_
        refine hs.o .ad fun hs => ?_
        refine hs.s fun hs => nn ?_
        exact hs.ag (j + 1) (hb5)
       ·try simp only [B] at hb5
        refine wp_exit <| then_x <| then_x <| block_hit <| then_n <| wp_seq <| sr <| hs.sc fun hs => nn <| wp_block ?_
        refine St.lo (σ := Nat) (11 :: (run 16 133 [])) ⟨fun k => [(11, AV.int k)], fun k => [Own.box b4 89 [AV.val (.int .i64 0), AV.val (.bool false), AV.rows 2 [], AV.rows 7 [], AV.rows 7 [], AV.rows 3 [], AV.rows 3 []], Own.gone, Own.gone, Own.box b8 89 (takeK s m i j k).cells, Own.gone], fun k => k ≤ m.owes.length⟩ (fun k => m.owes.length - k) 0 hs ?ok3 ?round3
        case ok3 => exact Nat.zero_le _
        case round3 =>
         rintro k I a w hok hs
         have hk : k ≤ m.owes.length := hok
         change St _ _ [Own.box b4 89 [AV.val (.int .i64 0), AV.val (.bool false), AV.rows 2 [], AV.rows 7 [], AV.rows 7 [], AV.rows 3 [], AV.rows 3 []], Own.gone, Own.gone, Own.box b8 89 (takeK s m i j k).cells, Own.gone] _ _ _ at hs
         refine wp_seq <| sr <| hs.m fun hs => hs.o .fp fun hs => hs.o .l1 fun hs => ?_
         refine hs.o .ln fun hs => ?_
         refine hs.o .lss fun hs => nn ?_
         refine hs.cd (fun hb6 => ?_) fun hb6 => ?_
         ·try simp only [B] at hb6
          refine wp_skip <| then_n <| wp_seq <| wp_block ?_
          refine hs.drawT 9 (by kernel_rfl) (by kernel_rfl) (by kernel_rfl) ?_
          simp only [List.take_succ_cons, List.take_zero, List.drop_succ_cons, List.drop_zero]
          refine .o .fv <| .o (.lb 3) <| .o .fp <| .o .l1 <| .o .mv ?_
          refine .o .ix ?_
          refine .o .la ?_
          refine .o (.cl (c_addTake (bulkFits_parts hb3).2.2 hb6)) ?_
          refine .o .fv <| .nil ?_
          intro I a w hs
          refine hs.s1 3 fun hs => ?_
          refine wpList_nil <| block_n <| then_n <| St.region <| hs.m fun hs => ?_
          refine hs.o .ad fun hs => ?_
          refine hs.s fun hs => nn ?_
          exact hs.ag (k + 1) (hb6)
         ·try simp only [B] at hb6
          refine wp_exit <| then_x <| then_x <| block_hit <| then_n <| wp_seq <| sr <| hs.o (.ls 3) fun hs => hs.o (.c1 (c_spec_ServerOk ..)) fun hs => hs.o .nt fun hs => nn ?_
          refine hs.cd (fun hb7 => ?_) fun hb7 => ?_
          ·rw [(takeK_all s m (by omega) (by omega) (by omega)), Bool.not_eq_true'] at hb7
           refine sr ?_
           refine hs.o .la fun hs => ?_
           refine hs.m fun hs => ?_
           refine hs.sb 0 fun hs => ?_
           refine hs.s fun hs => nn <| wp_ret <| then_r ?_
           refine hs.ret rfl (.cons (.s 0 ty89 rfl rfl (by first | rfl | assumption)) (.cons (by first | exact .t rfl | exact .nil rfl) ResL.nil)) ?_
           exact (by rw [hearBulk_2 hb1 (by simpa using hb2) (by rw [hb3, hb7]; rfl)]; rfl)
          ·rw [(takeK_all s m (by omega) (by omega) (by omega)), Bool.not_eq_false'] at hb7
           refine wp_skip <| then_n <| wp_seq ?_
           refine hs.drawD [([3], none), ([], none), ([], none), ([], none), ([0], some (0, [])), ([], none)] (by kernel_rfl) (by kernel_rfl) rfl ?_
           refine .r [3] (.ls 3) ?_
           refine .o (ok_call (c_spec_l21Settle (takeK s m i j k) (by rw [(takeK_all s m (by omega) (by omega) (by omega))]; exact (serverOk_iff.1 hb7).ok)) (args_cons (.t rfl) args_nil)) ?_
           refine .o .la ?_
           refine .o (.li [(bulkOkW s m).cells] zo135 (.u .nil)) ?_
           refine RunD.eff (x := AV.any) 0 (fun F W0 I0 I a w Q hs kk => hs.sb 0 fun hs => kk _ _ _ hs) ?_
           refine .o .as <| .nil ?_
           intro I a w hs
           refine then_n <| wp_ret ?_
           refine hs.ret rfl (.cons (.s 0 ty89 rfl rfl (by first | rfl | assumption)) (.cons (by first | exact .t rfl | exact .nil rfl) ResL.nil)) ?_
           exact (by rw [hearBulk_3 hb1 (by simpa using hb2) (by rw [hb3, hb7]; rfl), (takeK_all s m (by omega) (by omega) (by omega))]; rfl)
end Go.Proofs.YtkoebplikhlapaaGreatDoor
