/- Part 27: rules of the proofs, contracts of functions, plain facts. -/
import Derived.Test.YtkoebplikhlapaaGreatDoorP26
set_option linter.unusedVariables false
set_option linter.unusedSimpArgs false
set_option maxRecDepth 100000
namespace Go.Proofs.YtkoebplikhlapaaGreatDoor
open Go Go.RowKit
theorem new_test (s : Server) (v : Ver) (h1 : chainOk s.vers = true) (h2 : chainOk s.waits = true) : (!(chainAt s.vers ⟨v.key, v.stamp⟩).isSome && !(chainAt s.waits ⟨v.key, v.stamp⟩).isSome) = decide (placeOf s.vers v.dep < 0 ∧ placeOf s.waits v.dep < 0) := by
  rw [chainAt_some h1, chainAt_some h2, Bool.eq_iff_iff]
  show _ ↔ decide (placeOf s.vers ⟨v.key, v.stamp⟩ < 0 ∧ placeOf s.waits ⟨v.key, v.stamp⟩ < 0) = true
  simp
theorem putFull_test (s : Server) (m : Word) : (!nextOk (putStamps s m) || !canPut s.vers (putV s m) || decide (80 ≤ (s.owes.length : Int))) = !(nextOk (putStamps s m) && canPut s.vers (putV s m) && decide (s.owes.length < 80)) := by
  have e : decide (80 ≤ (s.owes.length : Int)) = !decide (s.owes.length < 80) := by rw [Bool.eq_iff_iff]; simp; omega
  rw [e]; simp
theorem putStamps_some {s : Server} {m : Word} (h : (topV s.vers m.key).isSome = true) : m.deps.map Dep.stamp ++ [((topV s.vers m.key).getD default).stamp] = putStamps s m := by
  obtain ⟨v, hv⟩ := Option.isSome_iff_exists.1 h
  unfold putStamps; rw [hv]; rfl
theorem putStamps_none {s : Server} {m : Word} (h : (topV s.vers m.key).isSome = false) : m.deps.map Dep.stamp = putStamps s m := by
  have e : topV s.vers m.key = none := by cases hh : topV s.vers m.key; rfl; rw [hh] at h; cases h
  unfold putStamps; rw [e]; simp
theorem put_ok {s : Server} {m : Word} (h : SrvGood s) (hm : wordOk m = true) (ho : ownsS s m.key = true) (hk : (nextOk (putStamps s m) && canPut s.vers (putV s m) && decide (s.owes.length < 80)) = true) : SrvGood { s with vers := insV s.vers (putV s m), owes := addD s.owes (putV s m).dep } := by
  simp only [Bool.and_eq_true, decide_eq_true_eq] at hk
  obtain ⟨a1, a2, a3⟩ := putV_dep h hm hk.1.1
  exact h.put hk.1.2 (by rw [a1]) (by show standOf s m.key ≠ 0; rw [(owns_stand ho).2]; omega) hk.2
theorem hearPut_0 {s : Server} {m : Word} (h : (inB m.frm 10 11 && decide (1 ≤ m.call) && ownsS s m.key) = false) : hearPut s m = (s, []) := by unfold hearPut; rw [h]; rfl
theorem hearPut_1 {s : Server} {m : Word} (h : (inB m.frm 10 11 && decide (1 ≤ m.call) && ownsS s m.key) = true) (hv : (calledS s m.key (m.frm - 10) m.call).isSome = true) : hearPut s m = (s, [putW s m ((calledS s m.key (m.frm - 10) m.call).getD default).stamp]) := by
  obtain ⟨v, hv⟩ := Option.isSome_iff_exists.1 hv
  unfold hearPut; rw [h, hv]; rfl
theorem hearPut_2 {s : Server} {m : Word} (h : (inB m.frm 10 11 && decide (1 ≤ m.call) && ownsS s m.key) = true) (hv : (calledS s m.key (m.frm - 10) m.call).isSome = false) (hf : (nextOk (putStamps s m) && canPut s.vers (putV s m) && decide (s.owes.length < 80)) = false) : hearPut s m = (s, []) := by
  have hv := isNone_eq (o := calledS s m.key (m.frm - 10) m.call) (by rw [hv]; rfl)
  unfold hearPut; rw [h, hv]; dsimp only; rw [hf]; rfl
theorem hearPut_3 {s : Server} {m : Word} (h : (inB m.frm 10 11 && decide (1 ≤ m.call) && ownsS s m.key) = true) (hv : (calledS s m.key (m.frm - 10) m.call).isSome = false) (hf : (nextOk (putStamps s m) && canPut s.vers (putV s m) && decide (s.owes.length < 80)) = true) :
    hearPut s m = (settleS { s with vers := insV s.vers (putV s m), owes := addD s.owes (putV s m).dep }, [putW s m (putV s m).stamp]) := by
  have hv := isNone_eq (o := calledS s m.key (m.frm - 10) m.call) (by rw [hv]; rfl)
  unfold hearPut; rw [h, hv]; dsimp only; rw [hf]; rfl
theorem bulk_test (s : Server) (m : Word) : ((m.frm != twinI s.site) || decide (m.epoch < 1)) = !((m.frm == twinI s.site) && decide (1 ≤ m.epoch)) := by
  have e : decide (m.epoch < 1) = !decide (1 ≤ m.epoch) := by rw [Bool.eq_iff_iff]; simp
  rw [e]; simp [bne]
theorem fits_test (s : Server) (m : Word) : (decide (80 < ((dropS s m.slot).vers.length : Int) + m.vers.length) || decide (80 < ((dropS s m.slot).waits.length : Int) + m.waits.length) || decide (80 < ((dropS s m.slot).owes.length : Int) + m.owes.length)) = !bulkFits s m := by
  have e : ∀ a b : Nat, decide (80 < (a : Int) + b) = !decide (a + b ≤ 80) := fun a b => by rw [Bool.eq_iff_iff]; simp; omega
  unfold bulkFits
  rw [e, e, e]; simp
theorem addV_put {l : List Ver} {v : Ver} (hv : verOk v = true) (hl : l.length < 80) : (if canPut l v then insV l v else l) = addV l v := by
  unfold canPut addV
  rw [hv]
  by_cases hp : placeOf l v.dep < 0
  · simp [hp, hl]
  · simp [hp]
theorem addV_chain {l : List Ver} {v : Ver} (hc : chainOk l = true) (hv : verOk v = true) (hl : l.length < 80) : chainOk (addV l v) = true := by
  unfold addV
  split
  · rename_i hp; exact chain_ins hc hv hp hl
  · exact hc
theorem putAll_take {l vs : List Ver} {k : Nat} (h : k < vs.length) : putAll l (vs.take (k + 1)) = addV (putAll l (vs.take k)) (elt vs k) := adds_take h
theorem putAll_len (l vs : List Ver) (k : Nat) : (putAll l (vs.take k)).length ≤ l.length + k := by
  have h1 := adds_len (vs.take k) l
  have h2 : (vs.take k).length ≤ k := by simp; omega
  unfold putAll; omega
theorem addAll_take {l ds : List Dep} {k : Nat} (h : k < ds.length) : (ds.take (k + 1)).foldl addD l = addD ((ds.take k).foldl addD l) (elt ds k) := by
  rw [take_elt h, List.foldl_append]; rfl
theorem addAll_len : ∀ (ds l : List Dep), (ds.foldl addD l).length ≤ l.length + ds.length
  | [], l => by simp
  | d :: r, l => by have h1 := addAll_len r (addD l d); have h2 := addD_len l d; simp only [List.foldl_cons, List.length_cons]; omega
theorem addAll_len' (l ds : List Dep) (k : Nat) : ((ds.take k).foldl addD l).length ≤ l.length + k := by
  have h1 := addAll_len (ds.take k) l
  have h2 : (ds.take k).length ≤ k := by simp; omega
  omega
theorem bulkFits_parts {s : Server} {m : Word} (h : bulkFits s m = true) : (dropS s m.slot).vers.length + m.vers.length ≤ 80 ∧ (dropS s m.slot).waits.length + m.waits.length ≤ 80 ∧ (dropS s m.slot).owes.length + m.owes.length ≤ 80 := by
  unfold bulkFits at h; simp only [Bool.and_eq_true, decide_eq_true_eq] at h; exact ⟨h.1.1, h.1.2, h.2⟩
theorem hear_test (s : Server) (m : Word) : (!s.up || !wordOk m || (m.to != s.site)) = !(s.up && wordOk m && (m.to == s.site)) := by simp [bne]
set_option maxHeartbeats 4000000 in
theorem c_spec_l22Rep (s : Server) (m : Word) (hg : SrvGood s) (hm : wordOk m = true) :
    Fn Tryz.prog 121 [s.av, m.av] (AV.tup [(hearRep s m).1.av, wordsAV (hearRep s m).2]) := by
 refine Fn.intro 115 Tryz.func121 rfl Tryz.ntmps121 rfl (by kernel_rfl) (fun W I a hs => ?_)
 have hok := serverOk_iff.2 hg
 have hso := hg.ok
 have hwl := wordOk_lists hm
 refine sr <| hs.box rfl .tt fun b2 I a w hs => hs.o .bp fun hs => hs.alloc rfl ty89 zc89 fun b4 I a w hs => hs.sc fun hs => nn <| sr ?_
 refine hs.lit0 rfl un37 ty135 (by decide) fun b14 I a w hs => ?_
 obtain ⟨I, hs, hf⟩ := hs.freezeRow 2 rfl
 have hs := hs.upd (t := 14) rfl hf; clear hf
 refine hs.s fun hs => nn <| wp_seq <| wp_seq <| hs.dk <| .o .fp <| .o .l1 <| .o (.c1 (c_spec_l1Site ..)) <| .o .nt <| .o .mv <| .q .F .fp ?_
 refine .q .F (.lx .ag) ?_
 refine .q .F (.cl (c_spec_SiteSide ..)) ?_
 refine .q .F .fv ?_
 refine .q .F (.lbx 0 .ag) ?_
 refine .q .F (.cl (c_spec_SiteSide ..)) ?_
 refine .q .F (ok_eqi .ag .ag) ?_
 refine .o .or <| .o .mv <| .q .F .fp ?_
 refine .q .F (.lx .ag) ?_
 refine .q .F .ln ?_
 refine .q .F (ok_nei .ag .c) ?_
 refine .o .or <| .o .mv <| .q .F (.ls 0) <| .q .F .fp ?_
 refine .q .F (.lx .ag) ?_
 refine .q .F (ok_idxN (i := 0) un86 ty173 .ag .c (fun hg => by simp only [B] at hg; omega)) ?_
 refine .q .F (.fx .ag) ?_
 refine .q .F (.lx .ag) ?_
 refine .q .F (.cl (c_spec_ServerOwns _ _ hok)) ?_
 refine .q .F (.ntx .ag) ?_
 refine .o .or <| .o .mv <| .q .F .fp ?_
 refine .q .F (.lx .ag) ?_
 refine .q .F (ok_idxN (i := 0) un86 ty173 .ag .c (fun hg => by simp only [B] at hg; omega)) ?_
 refine .q .F (.fx .ag) ?_
 refine .q .F (.fx .ag) ?_
 refine .q .F (.lx .ag) ?_
 refine .q .F (.cl (c_spec_SiteSide ..)) ?_
 refine .q .F .fv ?_
 refine .q .F (.lbx 0 .ag) ?_
 refine .q .F (.cl (c_spec_SiteSide ..)) ?_
 refine .q .F (ok_eqi .ag .ag) ?_
 refine .o .or <| .nil ?_
 intro I a w hs
 refine then_n ?_
 refine hs.cd (fun hb1 => ?_) fun hb1 => ?_
 ·rw [rep_test] at hb1; replace hb1 := nt hb1
  refine sr <| hs.o (.ls 0) fun hs => hs.m fun hs => ?_
  refine hs.sb 1 fun hs => ?_
  refine hs.s fun hs => nn <| wp_ret <| then_r ?_
  refine hs.ret rfl (.cons (.s 1 ty89 rfl rfl (by first | rfl | assumption)) (.cons (by first | exact .t rfl | exact .nil rfl) ResL.nil)) ?_
  exact (by unfold hearRep; rw [hb1]; rfl)
 ·rw [rep_test] at hb1; replace hb1 := nf hb1
  refine wp_skip <| then_n <| sr <| hs.o .fp fun hs => hs.o .l1 fun hs => ?_
  refine hs.o (ok_idxN (i := 0) un86 ty173 .tt .c (fun _ => by have := (repOk_parts hb1).2.2.1; omega)) fun hs => ?_
  refine hs.o .la fun hs => ?_
  refine hs.alloc rfl ty173 zc173 fun b7 I a w hs => ?_
  refine hs.sb 3 fun hs => ?_
  obtain ⟨I, hs, hf⟩ := hs.freezeBox 3 rfl
  have hs := hs.upd (t := 7) rfl hf; clear hf
  refine nn <| sr <| hs.o .fv fun hs => hs.o (.lb 0) fun hs => hs.o .fp fun hs => hs.o .l1 fun hs => hs.o .fp fun hs => ?_
  refine hs.o .la fun hs => ?_
  refine hs.o (.cl (c_spec_ChainAt ..)) fun hs => ?_
  refine hs.m fun hs => ?_
  refine hs.o .e fun hs => hs.o .e fun hs => hs.alloc rfl ty173 zc173 fun b8 I a w hs => ?_
  refine hs.sb 4 fun hs => ?_
  obtain ⟨I, hs, hf⟩ := hs.freezeBox 4 rfl
  have hs := hs.upd (t := 8) rfl hf; clear hf
  refine hs.s fun hs => nn <| sr <| hs.o .fv fun hs => ?_
  refine hs.o (.lb 0) fun hs => hs.o .fp fun hs => hs.o .l1 fun hs => hs.o .fp fun hs => ?_
  refine hs.o .la fun hs => ?_
  refine hs.o (.cl (c_spec_ChainAt ..)) fun hs => ?_
  refine hs.m fun hs => ?_
  refine hs.o .e fun hs => hs.o .e fun hs => hs.alloc rfl ty173 zc173 fun b10 I a w hs => ?_
  refine hs.sb 5 fun hs => ?_
  obtain ⟨I, hs, hf⟩ := hs.freezeBox 5 rfl
  have hs := hs.upd (t := 10) rfl hf; clear hf
  refine hs.s fun hs => nn <| wp_seq <| sr <| hs.m fun hs => hs.o .nt fun hs => hs.m fun hs => hs.q .T .mv fun hs => ?_
  refine hs.q .T (.ntx .ag) fun hs => ?_
  refine hs.o .an fun hs => nn ?_
  refine hs.cd (fun hb2 => ?_) fun hb2 => ?_
  ·rw [new_test s (elt m.vers 0) hso.vers hso.waits, decide_eq_true_eq] at hb2
   refine sr <| hs.o .fv fun hs => hs.o (.lb 0) fun hs => ?_
   refine hs.o .la fun hs => ?_
   refine hs.o (.cl (c_spec_ChainPut _ _ hso.waits)) fun hs => ?_
   refine hs.m fun hs => ?_
   refine hs.o .e fun hs => hs.o .e fun hs => hs.s fun hs => hs.s fun hs => nn <| wp_seq <| sr <| hs.m fun hs => hs.o .nt fun hs => nn ?_
   refine hs.cd (fun hb3 => ?_) fun hb3 => ?_
   ·simp only [B] at hb3
    refine sr <| hs.o (.ls 0) fun hs => hs.m fun hs => ?_
    refine hs.sb 1 fun hs => ?_
    refine hs.s fun hs => nn <| wp_ret <| then_r <| then_r ?_
    refine hs.ret rfl (.cons (.s 1 ty89 rfl rfl (by first | rfl | assumption)) (.cons (by first | exact .t rfl | exact .nil rfl) ResL.nil)) ?_
    exact (by unfold hearRep; rw [hb1, if_pos rfl]; dsimp only; rw [if_pos hb2, hb3]; rfl)
   ·simp only [B] at hb3
    refine wp_skip <| then_n <| St.region <| hs.m fun hs => hs.o .fv fun hs => ?_
    refine hs.s1 0 fun hs => ?_
    refine wpList_nil ?_
    rw [if_pos hb3] at hs
    refine then_n <| sr <| hs.o (.ls 0) fun hs => hs.o (.c1 (c_spec_l21Settle { s with waits := insV s.waits (elt m.vers 0) } (hso.waits_put hb3 hb2.1))) fun hs => ?_
    refine hs.sb 0 fun hs => ?_
    refine nn <| wp_seq ?_
    refine hs.drawD [([0], none), ([], none), ([0], none), ([], none), ([], none), ([], none), ([], none), ([], none), ([], none), ([], none), ([], none), ([1], some (1, [])), ([], none)] (by kernel_rfl) (by kernel_rfl) rfl ?_
    refine .r [0] (.ls 0) ?_
    refine .o .fv ?_
    refine .r [0] (.lb 0) ?_
    refine .o .fp <| .o .l1 <| .o .fp <| .o .l1 <| .o .fp ?_
    refine .o .la ?_
    refine .o (.bd zc135 (.k (.k (.k (.k (.t Parts.nil)))))) ?_
    refine .o (.li [({ repW s m (elt m.vers 0) with frm := (settleS { s with waits := insV s.waits (elt m.vers 0) }).site }).cells] zo135 (.u .nil)) ?_
    refine RunD.eff (x := AV.any) 1 (fun F W0 I0 I a w Q hs kk => hs.sb 1 fun hs => kk _ _ _ hs) ?_
    refine .o .as <| .nil ?_
    intro I a w hs
    refine then_n <| wp_ret ?_
    refine hs.ret rfl (.cons (.s 1 ty89 rfl rfl (by first | rfl | assumption)) (.cons (by first | exact .t rfl | exact .nil rfl) ResL.nil)) ?_
    exact (by unfold hearRep; rw [hb1, if_pos rfl]; dsimp only; rw [if_pos hb2, hb3, (settleS_same _).1]; rfl)
  ·rw [new_test s (elt m.vers 0) hso.vers hso.waits, decide_eq_false_iff_not] at hb2
   refine wp_skip <| then_n <| sr <| hs.o (.ls 0) fun hs => hs.o (.c1 (c_spec_l21Settle s hso)) fun hs => ?_
   refine hs.sb 0 fun hs => ?_
   refine nn <| wp_seq ?_
   refine hs.drawD [([0], none), ([], none), ([0], none), ([], none), ([], none), ([], none), ([], none), ([], none), ([], none), ([], none), ([], none), ([1], some (1, [])), ([], none)] (by kernel_rfl) (by kernel_rfl) rfl ?_
   refine .r [0] (.ls 0) ?_
   refine .o .fv ?_
   refine .r [0] (.lb 0) ?_
   refine .o .fp <| .o .l1 <| .o .fp <| .o .l1 <| .o .fp ?_
   refine .o .la ?_
   refine .o (.bd zc135 (.k (.k (.k (.k (.t Parts.nil)))))) ?_
   refine .o (.li [({ repW s m (elt m.vers 0) with frm := (settleS s).site }).cells] zo135 (.u .nil)) ?_
   refine RunD.eff (x := AV.any) 1 (fun F W0 I0 I a w Q hs kk => hs.sb 1 fun hs => kk _ _ _ hs) ?_
   refine .o .as <| .nil ?_
   intro I a w hs
   refine then_n <| wp_ret ?_
   refine hs.ret rfl (.cons (.s 1 ty89 rfl rfl (by first | rfl | assumption)) (.cons (by first | exact .t rfl | exact .nil rfl) ResL.nil)) ?_
   exact (by unfold hearRep; rw [hb1, if_pos rfl]; dsimp only; rw [if_neg hb2, (settleS_same _).1]; rfl)
set_option maxHeartbeats 4000000 in
theorem c_spec_l22Put (s : Server) (m : Word) (hg : SrvGood s) (hm : wordOk m = true) :
    Fn Tryz.prog 119 [s.av, m.av] (AV.tup [(hearPut s m).1.av, wordsAV (hearPut s m).2]) := by
 refine Fn.intro 150 Tryz.func119 rfl Tryz.ntmps119 rfl (by kernel_rfl) (fun W I a hs => ?_)
 have hok := serverOk_iff.2 hg
 have hso := hg.ok
 have hwl := wordOk_lists hm
 have hl6 := depsOk_len6 hwl.2.2.2
 have hb18 : inB m.frm 10 11 = true ∨ True := .inr trivial
 have lens : m.deps.length ≤ 9223372036854775807 ∧ m.vers.length ≤ 9223372036854775807 ∧ m.waits.length ≤ 9223372036854775807 ∧ m.owes.length ≤ 9223372036854775807 := by
    obtain ⟨cs, _, hc⟩ := hs.env 1 _ rfl
    obtain ⟨u0, _, h0, _⟩ := hc.get (i := 9) rfl
    obtain ⟨u1, _, h1, _⟩ := hc.get (i := 12) rfl
    obtain ⟨u2, _, h2, _⟩ := hc.get (i := 13) rfl
    obtain ⟨u3, _, h3, _⟩ := hc.get (i := 14) rfl
    exact ⟨rows_le h0, rows_le h1, rows_le h2, rows_le h3⟩
 refine sr <| hs.box rfl .tt fun b2 I a w hs => hs.o .bp fun hs => hs.alloc rfl ty89 zc89 fun b4 I a w hs => hs.sc fun hs => nn <| sr ?_
 refine hs.lit0 rfl un37 ty135 (by decide) fun b18 I a w hs => ?_
 obtain ⟨I, hs, hf⟩ := hs.freezeRow 2 rfl
 have hs := hs.upd (t := 18) rfl hf; clear hf
 refine hs.s fun hs => nn <| sr <| hs.o .fp fun hs => hs.o .l1 fun hs => ?_
 refine hs.o (ok_sub .tt .c (fun _ => by have h9 := wordOk_frm hm; omega)) fun hs => ?_
 refine hs.s fun hs => nn <| wp_seq <| sr <| hs.o .fp fun hs => hs.o .l1 fun hs => hs.o (.c1 (c_spec_l11Client ..)) fun hs => hs.o .nt fun hs => hs.m fun hs => hs.q .F .fp fun hs => ?_
 refine hs.q .F (.lx .ag) fun hs => ?_
 refine hs.q .F (ok_lss .ag .c) fun hs => ?_
 refine hs.o .or fun hs => hs.m fun hs => ?_
 refine hs.q .F (.ls 0) fun hs => hs.q .F .fp fun hs => ?_
 refine hs.q .F (.lx .ag) fun hs => ?_
 refine hs.q .F (.cl (c_spec_ServerOwns _ _ hok)) fun hs => ?_
 refine hs.q .F (.ntx .ag) fun hs => ?_
 refine hs.o .or fun hs => nn ?_
 refine hs.cd (fun hb1 => ?_) fun hb1 => ?_
 ·rw [client_test s m] at hb1; replace hb1 := nt hb1
  refine sr <| hs.o (.ls 0) fun hs => hs.m fun hs => ?_
  refine hs.sb 1 fun hs => ?_
  refine hs.s fun hs => nn <| wp_ret <| then_r ?_
  refine hs.ret rfl (.cons (.s 1 ty89 rfl rfl (by first | rfl | assumption)) (.cons (by first | exact .t rfl | exact .nil rfl) ResL.nil)) ?_
  exact (by rw [hearPut_0 hb1]; rfl)
 ·rw [client_test s m] at hb1; replace hb1 := nf hb1
  refine wp_skip <| then_n <| sr <| hs.o (.ls 0) fun hs => hs.o .fp fun hs => hs.o .l1 fun hs => hs.m fun hs => hs.o .fp fun hs => hs.o .l1 fun hs => ?_
  refine hs.o (.cl (c_spec_l22Called s m.key (m.frm - 10) m.call)) fun hs => ?_
  refine hs.m fun hs => ?_
  refine hs.o .e fun hs => hs.o .e fun hs => hs.alloc rfl ty173 zc173 fun b8 I a w hs => ?_
  refine hs.sb 3 fun hs => ?_
  refine hs.s fun hs => nn <| wp_seq <| sr <| hs.m fun hs => hs.o .nt fun hs => nn ?_
  refine hs.cd (fun hb2 => ?_) fun hb2 => ?_
  ·rw [Bool.not_eq_true'] at hb2
   refine sr ?_
   refine hs.lit0 rfl un200 ty115 (by decide) fun b52 I a w hs => ?_
   refine hs.s fun hs => nn <| wp_seq <| sr <| hs.sc fun hs => nn <| wp_block ?_
   refine St.lo (σ := Nat × Value) (run 2 10 (run 16 53 [])) ⟨fun ⟨k, v⟩ => [(11, AV.int k), (10, AV.val v)], fun ⟨k, v⟩ => [Own.box b2 89 s.cells, Own.box b4 89 [AV.val (.int .i64 0), AV.val (.bool false), AV.rows 2 [], AV.rows 7 [], AV.rows 7 [], AV.rows 3 [], AV.rows 3 []], Own.gone, Own.box b8 173 ((calledS s m.key (m.frm - 10) m.call).getD default).cells, Own.row v 115 2 (((m.deps.take k).map Dep.stamp).map Stamp.cells)], fun ⟨k, v⟩ => k ≤ m.deps.length⟩ (fun ⟨k, v⟩ => m.deps.length - k) (0, .slice (some ⟨b52, 0, none⟩) 0 0) hs ?ok1 ?round1
   case ok1 => exact Nat.zero_le _
   case round1 =>
    rintro ⟨k, v⟩ I a w hok hs
    have hk : k ≤ m.deps.length := hok
    change St _ _ [Own.box b2 89 s.cells, Own.box b4 89 [AV.val (.int .i64 0), AV.val (.bool false), AV.rows 2 [], AV.rows 7 [], AV.rows 7 [], AV.rows 3 [], AV.rows 3 []], Own.gone, Own.box b8 173 ((calledS s m.key (m.frm - 10) m.call).getD default).cells, Own.row v 115 2 (((m.deps.take k).map Dep.stamp).map Stamp.cells)] _ _ _ at hs
    refine wp_seq <| sr <| hs.m fun hs => hs.o .fp fun hs => hs.o .l1 fun hs => ?_
    refine hs.o .ln fun hs => ?_
    refine hs.o .lss fun hs => nn ?_
    refine hs.cd (fun hb3 => ?_) fun hb3 => ?_
    ·try simp only [B] at hb3
     refine wp_skip <| then_n <| wp_seq <| wp_block <| St.region <| hs.m fun hs => hs.o .fp fun hs => hs.o .l1 fun hs => hs.m fun hs => ?_
     refine hs.o .ix fun hs => ?_
     refine hs.o .fp fun hs => ?_
     refine hs.o .la fun hs => ?_
     refine hs.o (.li [(elt m.deps k).stamp.cells] zo115 (.u .nil)) fun hs => ?_
     refine hs.append 4 rfl un200 ty115 rfl .tt .r rfl (by simp only [List.length_map, List.length_cons, List.length_nil, List.length_take]; omega) fun v68 a w hs => ?_
     refine hs.s fun hs => wpList_nil <| block_n <| then_n <| St.region <| hs.m fun hs => ?_
     refine hs.o .ad fun hs => ?_
     refine hs.s fun hs => nn ?_
     rw [snocD, show (m.deps.take k).map Dep.stamp ++ [(elt m.deps k).stamp] = (m.deps.take (k + 1)).map Dep.stamp from by rw [take_elt hb3, List.map_append]; rfl] at hs
     exact hs.ag (k + 1, v68) (hb3)
    ·try simp only [B] at hb3
     refine wp_exit <| then_x <| then_x <| block_hit <| then_n <| sr <| hs.o .fv fun hs => hs.o (.lb 0) fun hs => hs.o .fp fun hs => hs.o .l1 fun hs => ?_
     refine hs.o (.cl (c_spec_ChainTop _ _ hso.vers)) fun hs => ?_
     refine hs.m fun hs => ?_
     refine hs.o .e fun hs => hs.o .e fun hs => hs.alloc rfl ty173 zc173 fun b12 I a w hs => ?_
     refine hs.sb 5 fun hs => ?_
     obtain ⟨I, hs, hf⟩ := hs.freezeBox 5 rfl
     have hs := hs.upd (t := 12) rfl hf; clear hf
     refine hs.s fun hs => nn ?_
     refine St.cut (σ := Value) (10 :: (run 6 77 [])) ⟨fun v => [(10, AV.val v)], fun v => [Own.box b2 89 s.cells, Own.box b4 89 [AV.val (.int .i64 0), AV.val (.bool false), AV.rows 2 [], AV.rows 7 [], AV.rows 7 [], AV.rows 3 [], AV.rows 3 []], Own.gone, Own.box b8 173 ((calledS s m.key (m.frm - 10) m.call).getD default).cells, Own.row v 115 2 ((putStamps s m).map Stamp.cells), Own.gone], fun v => True⟩ hs ?cutA13 ?cutB13
     case cutA13 =>
      refine sr <| hs.m fun hs => nn ?_
      refine hs.cd (fun hb4 => ?_) fun hb4 => ?_
      ·skip
       refine St.region <| hs.m fun hs => hs.o .fp fun hs => ?_
       refine hs.o .la fun hs => ?_
       refine hs.o (.li [((topV s.vers m.key).getD default).stamp.cells] zo115 (.u .nil)) fun hs => ?_
       refine hs.append 4 rfl un200 ty115 rfl .tt .r rfl (by simp only [List.length_map, List.length_cons, List.length_nil, List.length_take]; omega) fun v82 a w hs => ?_
       refine hs.s fun hs => nn ?_
       first | rw [snocD, show m.deps.take k = m.deps from List.take_of_length_le (by omega), putStamps_some hb4] at hs | rw [show m.deps.take k = m.deps from List.take_of_length_le (by omega), putStamps_none hb4] at hs
       exact hs.me v82 (by trivial)
      ·skip
       refine wp_skip <| then_n ?_
       first | rw [snocD, show m.deps.take k = m.deps from List.take_of_length_le (by omega), putStamps_some hb4] at hs | rw [show m.deps.take k = m.deps from List.take_of_length_le (by omega), putStamps_none hb4] at hs
       exact hs.me v (by trivial)
     case cutB13 =>
      rintro v I a w hok hs
      refine sr <| hs.o .fv fun hs => hs.o (.lb 0) fun hs => hs.m fun hs => ?_
      obtain ⟨I, hs, hf⟩ := hs.freezeRow 4 rfl
      have hs := hs.upd (t := 86) rfl hf; clear hf
      refine hs.o (.cl (c_spec_StampNext s.site (putStamps s m) hg.site (putStamps_ok hg hm))) fun hs => ?_
      refine hs.m fun hs => ?_
      refine hs.o .e fun hs => hs.o .e fun hs => hs.alloc rfl ty115 zc115 fun b14 I a w hs => ?_
      refine hs.sb 6 fun hs => ?_
      obtain ⟨I, hs, hf⟩ := hs.freezeBox 6 rfl
      have hs := hs.upd (t := 14) rfl hf; clear hf
      refine hs.s fun hs => nn <| wp_seq ?_
      refine hs.drawT 13 (by kernel_rfl) (by kernel_rfl) (by kernel_rfl) ?_
      simp only [List.take_succ_cons, List.take_zero, List.drop_succ_cons, List.drop_zero]
      refine .o .fp <| .o .l1 ?_
      refine .o .la ?_
      refine .o .fp <| .o .l1 <| .o .mv <| .o .fp <| .o .l1 <| .o (ok_lit0 un87 ty165) <| .o .fp <| .o .l1 ?_
      refine .o (ok_append0 un87 ty165 rfl .tt .r (fun _ => by simp; omega)) ?_
      refine .o (.bd zc173 (.k (.t (.k (.k (.k (.k Parts.nil))))))) ?_
      refine .nil ?_
      intro I a w hs
      refine hs.sb 3 fun hs => ?_
      refine nn <| sr <| hs.o .fv fun hs => hs.o (.lb 0) fun hs => hs.o (.ls 3) fun hs => ?_
      refine hs.o (.cl (c_spec_ChainPut s.vers (putV s m) hso.vers)) fun hs => ?_
      refine hs.m fun hs => ?_
      refine hs.o .e fun hs => hs.o .e fun hs => hs.s fun hs => hs.s fun hs => nn <| wp_seq <| sr <| hs.m fun hs => hs.o .nt fun hs => hs.m fun hs => hs.q .F .mv fun hs => ?_
      refine hs.q .F (.ntx .ag) fun hs => ?_
      refine hs.o .or fun hs => hs.m fun hs => hs.q .F .fv fun hs => ?_
      refine hs.q .F (.lbx 0 .ag) fun hs => ?_
      refine hs.q .F .ln fun hs => ?_
      refine hs.q .F (ok_geq .ag .c) fun hs => ?_
      refine hs.o .or fun hs => nn ?_
      refine hs.cd (fun hb5 => ?_) fun hb5 => ?_
      ·rw [putFull_test s m] at hb5; replace hb5 := nt hb5
       refine sr <| hs.o (.ls 0) fun hs => hs.m fun hs => ?_
       refine hs.sb 1 fun hs => ?_
       refine hs.s fun hs => nn <| wp_ret <| then_r <| then_r ?_
       refine hs.ret rfl (.cons (.s 1 ty89 rfl rfl (by first | rfl | assumption)) (.cons (by first | exact .t rfl | exact .nil rfl) ResL.nil)) ?_
       exact (by rw [hearPut_2 hb1 hb2 hb5]; rfl)
      ·rw [putFull_test s m] at hb5; replace hb5 := nf hb5
       refine wp_skip <| then_n <| sr <| hs.m fun hs => hs.o .fv fun hs => ?_
       refine hs.s1 0 fun hs => ?_
       refine wpList_nil ?_
       rw [if_pos (by simp only [Bool.and_eq_true] at hb5; exact hb5.1.2)] at hs
       refine then_n <| sr <| hs.o .fv fun hs => hs.o (.lb 0) fun hs => hs.o .fv fun hs => hs.o (.lb 3) fun hs => hs.o .fv fun hs => hs.o (.ls 3) fun hs => ?_
       refine hs.o (.bd zc165 (.k (.t Parts.nil))) fun hs => ?_
       refine hs.o (ok_call (c_spec_l21PutDep s.owes (putV s m).dep (by have := debts_len hg.owes; omega)) (args_cons .r (args_cons (.t rfl) args_nil))) fun hs => ?_
       refine hs.o .fv fun hs => ?_
       refine hs.s1 0 fun hs => ?_
       refine nn <| St.region <| hs.o (.ls 0) fun hs => ?_
       refine hs.o (ok_call (c_spec_l21Settle { s with vers := insV s.vers (putV s m), owes := addD s.owes (putV s m).dep } (put_ok hg hm (by simp only [Bool.and_eq_true] at hb1; exact hb1.2) hb5).ok) (args_cons (.t rfl) args_nil)) fun hs => ?_
       refine hs.sb 0 fun hs => ?_
       refine nn <| wp_seq ?_
       refine hs.drawD [([0], none), ([], none), ([0], none), ([], none), ([], none), ([], none), ([], none), ([], none), ([], none), ([], none), ([3], none), ([], none), ([], none), ([1], some (1, [])), ([], none)] (by kernel_rfl) (by kernel_rfl) rfl ?_
       refine .r [0] (.ls 0) ?_
       refine .o .fv ?_
       refine .r [0] (.lb 0) ?_
       refine .o .fp <| .o .l1 <| .o .fp <| .o .l1 <| .o .fp <| .o .l1 <| .o .fv ?_
       refine .r [3] (.ls 3) ?_
       refine .o (.bd zc135 (.k (.k (.k (.k (.k (.t Parts.nil))))))) ?_
       refine .o (.li [({ putW s m (putV s m).stamp with frm := (settleS { s with vers := insV s.vers (putV s m), owes := addD s.owes (putV s m).dep }).site }).cells] zo135 (.u .nil)) ?_
       refine RunD.eff (x := AV.any) 1 (fun F W0 I0 I a w Q hs kk => hs.sb 1 fun hs => kk _ _ _ hs) ?_
       refine .o .as <| .nil ?_
       intro I a w hs
       refine then_n <| wp_ret ?_
       refine hs.ret rfl (.cons (.s 1 ty89 rfl rfl (by first | rfl | assumption)) (.cons (by first | exact .t rfl | exact .nil rfl) ResL.nil)) ?_
       exact (by rw [hearPut_3 hb1 hb2 hb5, (settleS_same _).1]; rfl)
  ·rw [Bool.not_eq_false'] at hb2
   refine wp_skip <| then_n <| wp_seq ?_
   refine hs.drawD [([0], none), ([], none), ([0], none), ([], none), ([], none), ([], none), ([], none), ([], none), ([], none), ([], none), ([3], none), ([], none), ([], none), ([1], some (1, [])), ([], none)] (by kernel_rfl) (by kernel_rfl) rfl ?_
   refine .r [0] (.ls 0) ?_
   refine .o .fv ?_
   refine .r [0] (.lb 0) ?_
   refine .o .fp <| .o .l1 <| .o .fp <| .o .l1 <| .o .fp <| .o .l1 <| .o .fv ?_
   refine .r [3] (.ls 3) ?_
   refine .o (.bd zc135 (.k (.k (.k (.k (.k (.t Parts.nil))))))) ?_
   refine .o (.li [(putW s m ((calledS s m.key (m.frm - 10) m.call).getD default).stamp).cells] zo135 (.u .nil)) ?_
   refine RunD.eff (x := AV.any) 1 (fun F W0 I0 I a w Q hs kk => hs.sb 1 fun hs => kk _ _ _ hs) ?_
   refine .o .as <| .nil ?_
   intro I a w hs
   refine then_n <| wp_ret ?_
   refine hs.ret rfl (.cons (.s 1 ty89 rfl rfl (by first | rfl | assumption)) (.cons (by first | exact .t rfl | exact .nil rfl) ResL.nil)) ?_
   exact (by rw [hearPut_1 hb1 hb2]; rfl)
end Go.Proofs.YtkoebplikhlapaaGreatDoor
