/- Part 26: rules of the proofs, contracts of functions, plain facts. -/
import Derived.Test.YtkoebplikhlapaaGreatDoorP25
set_option linter.unusedVariables false
set_option linter.unusedSimpArgs false
set_option maxRecDepth 100000
namespace Go.Proofs.YtkoebplikhlapaaGreatDoor
open Go Go.RowKit
theorem have_test (s : Server) (m : Word) : ((m.frm != twinI s.site) || !wantedS s ⟨m.key, m.stamp⟩ || decide (80 ≤ (s.knows.length : Int))) = !((m.frm == twinI s.site) && wantedS s ⟨m.key, m.stamp⟩ && decide (s.knows.length < 80)) := by
  have e : decide (80 ≤ (s.knows.length : Int)) = !decide (s.knows.length < 80) := by rw [Bool.eq_iff_iff]; simp; omega
  rw [e]; simp [bne]
theorem paid_test (s : Server) (m : Word) : (!siteB m.frm || (siteSide m.frm == siteSide s.site) || decide (depI s.owes ⟨m.key, m.stamp⟩ < 0) || ((elt s.slots (verSlot m.key).toNat).stand != 1)) =
    !(siteB m.frm && (siteSide m.frm != siteSide s.site) && decide (0 ≤ depI s.owes ⟨m.key, m.stamp⟩) && (standOf s m.key == 1)) := by
  have e : decide (depI s.owes ⟨m.key, m.stamp⟩ < 0) = !decide (0 ≤ depI s.owes ⟨m.key, m.stamp⟩) := by rw [Bool.eq_iff_iff]; simp
  rw [e]; simp [bne, standOf]
theorem gone_test (s : Server) (m : Word) : ((m.frm != twinI s.site) || ((elt s.slots m.slot.toNat).stand != 2) || ((elt s.slots m.slot.toNat).epoch != m.epoch)) =
    !((m.frm == twinI s.site) && ((elt s.slots m.slot.toNat).stand == 2) && ((elt s.slots m.slot.toNat).epoch == m.epoch)) := by simp [bne]
theorem client_test (s : Server) (m : Word) : (!inB m.frm 10 11 || decide (m.call < 1) || !ownsS s m.key) = !(inB m.frm 10 11 && decide (1 ≤ m.call) && ownsS s m.key) := by
  have e : decide (m.call < 1) = !decide (1 ≤ m.call) := by rw [Bool.eq_iff_iff]; simp
  rw [e]; simp
theorem rep_test (s : Server) (m : Word) : (!siteB m.frm || (siteSide m.frm == siteSide s.site) || ((m.vers.length : Int) != 1) || !ownsS s (elt m.vers 0).key || (siteSide (elt m.vers 0).stamp.site == siteSide s.site)) = !repOk s m := by
  have e : ((m.vers.length : Int) != 1) = !decide (m.vers.length = 1) := by rw [Bool.eq_iff_iff]; simp; omega
  unfold repOk
  rw [e]; simp [bne]
theorem map_get {α : Type} [Inhabited α] {f : α → List AV} {l : List α} {i : Nat} (h : i < l.length) : (l.map f)[i]? = some (f (elt l i)) := by rw [List.getElem?_map, elt_get h]; rfl
theorem isNone_eq {α : Type} {o : Option α} (h : (!o.isSome) = true) : o = none := by cases o; rfl; cases h
theorem chainAt_atV {l : List Ver} (h : chainOk l = true) (d : Dep) : chainAt l d = atV l d := by unfold chainAt atV; simp [h]
set_option maxHeartbeats 4000000 in
theorem c_spec_l21Drop (s : Server) (slot : Int) (h1 : chainOk s.vers = true) (h2 : chainOk s.waits = true) (ho : s.owes.length ≤ 80) :
    Fn Tryz.prog 164 [s.av, AV.int slot] ((dropS s slot).av) := by
 refine Fn.intro 51 Tryz.func164 rfl Tryz.ntmps164 rfl (by kernel_rfl) (fun W I a hs => ?_)
 have lens : s.slots.length ≤ 9223372036854775807 ∧ s.vers.length ≤ 9223372036854775807 ∧ s.waits.length ≤ 9223372036854775807 ∧ s.owes.length ≤ 9223372036854775807 ∧ s.knows.length ≤ 9223372036854775807 := by
    obtain ⟨cs, _, hc⟩ := hs.env 0 _ rfl
    obtain ⟨u0, _, h0, _⟩ := hc.get (i := 2) rfl
    obtain ⟨u1, _, h1, _⟩ := hc.get (i := 3) rfl
    obtain ⟨u2, _, h2, _⟩ := hc.get (i := 4) rfl
    obtain ⟨u3, _, h3, _⟩ := hc.get (i := 5) rfl
    obtain ⟨u4, _, h4, _⟩ := hc.get (i := 6) rfl
    exact ⟨rows_le h0, rows_le h1, rows_le h2, rows_le h3, rows_le h4⟩
 refine sr <| hs.box rfl .tt fun b2 I a w hs => hs.alloc rfl ty89 zc89 fun b4 I a w hs => nn <| sr <| hs.o .fv fun hs => hs.o (.lb 0) fun hs => hs.m fun hs => ?_
 refine hs.o (.cl (c_spec_ChainSlot _ _ h1)) fun hs => ?_
 refine hs.m fun hs => ?_
 refine hs.o .e fun hs => hs.o .e fun hs => hs.o .fv fun hs => ?_
 refine hs.s1 0 fun hs => ?_
 refine nn <| sr <| hs.o .fv fun hs => hs.o (.lb 0) fun hs => hs.m fun hs => ?_
 refine hs.o (.cl (c_spec_ChainSlot _ _ h2)) fun hs => ?_
 refine hs.m fun hs => ?_
 refine hs.o .e fun hs => hs.o .e fun hs => hs.o .fv fun hs => ?_
 refine hs.s1 0 fun hs => ?_
 refine nn <| sr ?_
 refine hs.lit0 rfl un87 ty165 (by decide) fun b23 I a w hs => ?_
 refine hs.s fun hs => nn <| wp_seq <| sr <| hs.sc fun hs => nn <| wp_block ?_
 refine St.lo (σ := Nat × Value) (run 2 5 (run 24 24 [])) ⟨fun ⟨k, v⟩ => [(6, AV.int k), (5, AV.val v)], fun ⟨k, v⟩ => [Own.box b2 89 [AV.int s.site, AV.bool s.up, slotsAV s.slots, versAV (s.vers.filter fun v => !slotIs slot v), versAV (s.waits.filter fun v => !slotIs slot v), depsAV s.owes, depsAV s.knows], Own.box b4 89 [AV.val (.int .i64 0), AV.val (.bool false), AV.rows 2 [], AV.rows 7 [], AV.rows 7 [], AV.rows 3 [], AV.rows 3 []], Own.row v 165 3 (((s.owes.take k).filter (fun d => !ofSlotD slot d)).map Dep.cells)], fun ⟨k, v⟩ => k ≤ s.owes.length⟩ (fun ⟨k, v⟩ => s.owes.length - k) (0, .slice (some ⟨b23, 0, none⟩) 0 0) hs ?ok1 ?round1
 case ok1 => exact Nat.zero_le _
 case round1 =>
  rintro ⟨k, v⟩ I a w hok hs
  have hk : k ≤ s.owes.length := hok
  have hfl := filt_len (fun d => !ofSlotD slot d) s.owes k
  change St _ _ [Own.box b2 89 [AV.int s.site, AV.bool s.up, slotsAV s.slots, versAV (s.vers.filter fun v => !slotIs slot v), versAV (s.waits.filter fun v => !slotIs slot v), depsAV s.owes, depsAV s.knows], Own.box b4 89 [AV.val (.int .i64 0), AV.val (.bool false), AV.rows 2 [], AV.rows 7 [], AV.rows 7 [], AV.rows 3 [], AV.rows 3 []], Own.row v 165 3 (((s.owes.take k).filter (fun d => !ofSlotD slot d)).map Dep.cells)] _ _ _ at hs
  refine wp_seq <| sr <| hs.m fun hs => hs.o .fv fun hs => ?_
  refine hs.o (.lb 0) fun hs => ?_
  refine hs.o .ln fun hs => ?_
  refine hs.o .lss fun hs => nn ?_
  refine hs.cd (fun hb1 => ?_) fun hb1 => ?_
  ·try simp only [B] at hb1
   refine wp_skip <| then_n <| wp_seq <| wp_block <| sr <| hs.o .fv fun hs => hs.o (.lb 0) fun hs => hs.m fun hs => ?_
   refine hs.o .ix fun hs => ?_
   refine hs.o .fp fun hs => hs.o .l1 fun hs => hs.o (.c1 (c_spec_VerSlot ..)) fun hs => hs.m fun hs => hs.o .nei fun hs => nn ?_
   refine hs.cd (fun hb2 => ?_) fun hb2 => ?_
   ·change (fun d => !ofSlotD slot d) (elt s.owes k) = true at hb2
    refine St.region <| hs.m fun hs => hs.o .fv fun hs => ?_
    refine hs.o (.lb 0) fun hs => hs.m fun hs => ?_
    refine hs.o .ix fun hs => ?_
    refine hs.o .la fun hs => ?_
    refine hs.o (.li [(elt s.owes k).cells] zo165 (.u .nil)) fun hs => ?_
    refine hs.append 2 rfl un87 ty165 rfl .tt .r rfl (by simp; omega) fun v47 a w hs => ?_
    rw [snocD, ← filt_yes (p := (fun d => !ofSlotD slot d)) hb1 hb2] at hs
    refine hs.s fun hs => wpList_nil <| block_n <| then_n <| St.region <| hs.m fun hs => ?_
    refine hs.o .ad fun hs => ?_
    refine hs.s fun hs => nn ?_
    exact hs.ag (k + 1, v47) (hb1)
   ·change (fun d => !ofSlotD slot d) (elt s.owes k) = false at hb2
    refine wp_skip <| block_n <| then_n <| St.region <| hs.m fun hs => ?_
    refine hs.o .ad fun hs => ?_
    refine hs.s fun hs => nn ?_
    rw [show (s.owes.take k).filter (fun d => !ofSlotD slot d) = (s.owes.take (k + 1)).filter (fun d => !ofSlotD slot d) from (filt_no hb1 hb2).symm] at hs
    exact hs.ag (k + 1, v) (hb1)
  ·try simp only [B] at hb1
   refine wp_exit <| then_x <| then_x <| block_hit <| then_n <| sr <| hs.m fun hs => ?_
   obtain ⟨I, hs, hf⟩ := hs.freezeRow 2 rfl
   have hs := hs.upd (t := 48) rfl hf; clear hf
   refine hs.o .fv fun hs => ?_
   refine hs.s1 0 fun hs => ?_
   refine nn <| sr <| hs.o (.ls 0) fun hs => ?_
   refine hs.sb 1 fun hs => ?_
   refine nn <| wp_ret ?_
   refine hs.ret rfl (.cons (.s 1 ty89 rfl rfl (by first | rfl | assumption)) ResL.nil) ?_
   exact (by rw [show s.owes.take k = s.owes from List.take_of_length_le (by omega)]; rfl)
set_option maxHeartbeats 4000000 in
theorem c_spec_l21Bulk (s : Server) (slot : Int) (h1 : chainOk s.vers = true) (h2 : chainOk s.waits = true) (h0 : siteB s.site = true) (h3 : s.slots.length = 3) (hsl : 0 ≤ slot ∧ slot < 3) (ho : s.owes.length ≤ 80) :
    Fn Tryz.prog 129 [s.av, AV.int slot] ((bulkW s slot).av) := by
 refine Fn.intro 63 Tryz.func129 rfl Tryz.ntmps129 rfl (by kernel_rfl) (fun W I a hs => ?_)
 have lens : s.slots.length ≤ 9223372036854775807 ∧ s.vers.length ≤ 9223372036854775807 ∧ s.waits.length ≤ 9223372036854775807 ∧ s.owes.length ≤ 9223372036854775807 ∧ s.knows.length ≤ 9223372036854775807 := by
    obtain ⟨cs, _, hc⟩ := hs.env 0 _ rfl
    obtain ⟨u0, _, h0, _⟩ := hc.get (i := 2) rfl
    obtain ⟨u1, _, h1, _⟩ := hc.get (i := 3) rfl
    obtain ⟨u2, _, h2, _⟩ := hc.get (i := 4) rfl
    obtain ⟨u3, _, h3, _⟩ := hc.get (i := 5) rfl
    obtain ⟨u4, _, h4, _⟩ := hc.get (i := 6) rfl
    exact ⟨rows_le h0, rows_le h1, rows_le h2, rows_le h3, rows_le h4⟩
 refine sr <| hs.box rfl .tt fun b2 I a w hs => hs.alloc rfl ty135 zc135 fun b4 I a w hs => nn <| wp_seq ?_
 refine hs.drawA 14 (by kernel_rfl) (by kernel_rfl) (by kernel_rfl) ?_
 simp only [List.take_succ_cons, List.take_zero, List.drop_succ_cons, List.drop_zero]
 refine .o .fv <| .o (.lb 0) <| .o .fv <| .o (.lb 0) <| .o (.c1 (c_spec_l21Twin _ h0)) <| .o .mv <| .o .fv <| .o (.lb 0) <| .o .mv ?_
 refine .o .ix ?_
 refine .o .fp <| .o .l1 ?_
 refine .o (.bd zx135 (.k (.k (.k (.k (.k Parts.nil)))))) ?_
 refine RunTA.alloc ty135 zc135 <| .nil ?_
 intro I a w hs
 obtain ⟨b5, hs⟩ := hs.openBox (d := 5) rfl
 refine hs.sb 2 fun hs => ?_
 refine wpList_nil ?_
 have hs := hs.ownNil (sz := 3) 165
 refine then_n <| sr <| hs.o .fv fun hs => hs.o (.lb 0) fun hs => hs.m fun hs => ?_
 refine hs.o (.cl (c_spec_ChainSlot _ _ h1)) fun hs => ?_
 refine hs.m fun hs => ?_
 refine hs.o .e fun hs => hs.o .e fun hs => hs.o .fv fun hs => ?_
 refine hs.s1 2 fun hs => ?_
 refine nn <| sr <| hs.o .fv fun hs => hs.o (.lb 0) fun hs => hs.m fun hs => ?_
 refine hs.o (.cl (c_spec_ChainSlot _ _ h2)) fun hs => ?_
 refine hs.m fun hs => ?_
 refine hs.o .e fun hs => hs.o .e fun hs => hs.o .fv fun hs => ?_
 refine hs.s1 2 fun hs => ?_
 refine nn <| wp_seq <| sr <| hs.sc fun hs => nn <| wp_block ?_
 refine St.lo (σ := Nat × Value) (6 :: (run 26 36 [])) ⟨fun ⟨k, v⟩ => [(6, AV.int k)], fun ⟨k, v⟩ => [Own.box b2 89 s.cells, Own.box b4 135 [AV.val (.int .i64 0), AV.val (.int .i64 0), AV.val (.int .i64 0), AV.val (.int .i64 0), AV.val (.int .i64 0), AV.val (.int .i64 0), AV.val (.int .i64 0), AV.val (.int .i64 0), AV.val (.bool false), AV.rows 3 [], AV.val (.int .i64 0), AV.val (.int .i64 0), AV.rows 7 [], AV.rows 7 [], AV.rows 3 []], Own.box b5 135 [AV.int (bulkW s slot).kind, AV.int (bulkW s slot).frm, AV.int (bulkW s slot).to, AV.int (bulkW s slot).call, AV.int (bulkW s slot).key, AV.int (bulkW s slot).stamp.time, AV.int (bulkW s slot).stamp.site, AV.int (bulkW s slot).val, AV.bool (bulkW s slot).yes, AV.val (.slice none 0 0), AV.int (bulkW s slot).slot, AV.int (bulkW s slot).epoch, versAV (bulkW s slot).vers, versAV (bulkW s slot).waits, AV.val v], Own.row v 165 3 (((s.owes.take k).filter (ofSlotD slot)).map Dep.cells)], fun ⟨k, v⟩ => k ≤ s.owes.length⟩ (fun ⟨k, v⟩ => s.owes.length - k) (0, .slice none 0 0) hs ?ok1 ?round1
 case ok1 => exact Nat.zero_le _
 case round1 =>
  rintro ⟨k, v⟩ I a w hok hs
  have hk : k ≤ s.owes.length := hok
  have hfl := filt_len (ofSlotD slot) s.owes k
  change St _ _ [Own.box b2 89 s.cells, Own.box b4 135 [AV.val (.int .i64 0), AV.val (.int .i64 0), AV.val (.int .i64 0), AV.val (.int .i64 0), AV.val (.int .i64 0), AV.val (.int .i64 0), AV.val (.int .i64 0), AV.val (.int .i64 0), AV.val (.bool false), AV.rows 3 [], AV.val (.int .i64 0), AV.val (.int .i64 0), AV.rows 7 [], AV.rows 7 [], AV.rows 3 []], Own.box b5 135 [AV.int (bulkW s slot).kind, AV.int (bulkW s slot).frm, AV.int (bulkW s slot).to, AV.int (bulkW s slot).call, AV.int (bulkW s slot).key, AV.int (bulkW s slot).stamp.time, AV.int (bulkW s slot).stamp.site, AV.int (bulkW s slot).val, AV.bool (bulkW s slot).yes, AV.val (.slice none 0 0), AV.int (bulkW s slot).slot, AV.int (bulkW s slot).epoch, versAV (bulkW s slot).vers, versAV (bulkW s slot).waits, AV.val v], Own.row v 165 3 (((s.owes.take k).filter (ofSlotD slot)).map Dep.cells)] _ _ _ at hs
  refine wp_seq <| sr <| hs.m fun hs => hs.o .fv fun hs => ?_
  refine hs.o (.lb 0) fun hs => ?_
  refine hs.o .ln fun hs => ?_
  refine hs.o .lss fun hs => nn ?_
  refine hs.cd (fun hb1 => ?_) fun hb1 => ?_
  ·try simp only [B] at hb1
   refine wp_skip <| then_n <| wp_seq <| wp_block <| sr <| hs.o .fv fun hs => hs.o (.lb 0) fun hs => hs.m fun hs => ?_
   refine hs.o .ix fun hs => ?_
   refine hs.o .fp fun hs => hs.o .l1 fun hs => hs.o (.c1 (c_spec_VerSlot ..)) fun hs => hs.m fun hs => hs.o .eqi fun hs => nn ?_
   refine hs.cd (fun hb2 => ?_) fun hb2 => ?_
   ·change (ofSlotD slot) (elt s.owes k) = true at hb2
    refine hs.drawT 8 (by kernel_rfl) (by kernel_rfl) (by kernel_rfl) ?_
    simp only [List.take_succ_cons, List.take_zero, List.drop_succ_cons, List.drop_zero]
    refine .o .fv <| .o (.lb 2) <| .o .fv <| .o (.lb 0) <| .o .mv ?_
    refine .o .ix ?_
    refine .o .la ?_
    refine .o (.li [(elt s.owes k).cells] zo165 (.u .nil)) ?_
    refine .nil ?_
    intro I a w hs
    refine hs.append 3 rfl un87 ty165 rfl .tt .r rfl (by simp; omega) fun v60 a w hs => ?_
    refine hs.o .fv fun hs => ?_
    try have ho60 := hs.oneRow 3 rfl
    refine hs.s1 2 fun hs => ?_
    refine wpList_nil ?_
    rw [snocD, ← filt_yes (p := (ofSlotD slot)) hb1 hb2] at hs
    refine block_n <| then_n <| St.region <| hs.m fun hs => ?_
    refine hs.o .ad fun hs => ?_
    refine hs.s fun hs => nn ?_
    exact hs.ag (k + 1, v60) (hb1)
   ·change (ofSlotD slot) (elt s.owes k) = false at hb2
    refine wp_skip <| block_n <| then_n <| St.region <| hs.m fun hs => ?_
    refine hs.o .ad fun hs => ?_
    refine hs.s fun hs => nn ?_
    rw [show (s.owes.take k).filter (ofSlotD slot) = (s.owes.take (k + 1)).filter (ofSlotD slot) from (filt_no hb1 hb2).symm] at hs
    exact hs.ag (k + 1, v) (hb1)
  ·try simp only [B] at hb1
   refine wp_exit <| then_x <| then_x <| block_hit <| then_n <| wp_seq ?_
   have hs := hs.updBox (q := 9) 2 rfl rfl (rows_nil 3 _)
   obtain ⟨I, hs, hf⟩ := hs.freezeRow 3 rfl
   have hs := hs.updBox (q := 14) 2 rfl rfl hf
   refine St.region <| hs.o (.ls 2) fun hs => ?_
   refine hs.sb 1 fun hs => ?_
   refine nn <| wp_ret ?_
   refine hs.ret rfl (.cons (.s 1 ty135 rfl rfl (by first | rfl | assumption)) ResL.nil) ?_
   exact (by rw [show s.owes.take k = s.owes from List.take_of_length_le (by omega)]; rfl)
theorem c_spec_ServerRise (s : Server) (hok : serverOk s = true) :
    Fn Tryz.prog 96 [s.av] ((riseS s).av) := by
 refine Fn.intro 12 Tryz.func96 rfl Tryz.ntmps96 rfl (by kernel_rfl) (fun W I a hs => ?_)
 have hp := serverOk_parts hok
 refine sr <| hs.o .bp fun hs => hs.alloc rfl ty89 zc89 fun b2 I a w hs => nn <| wp_seq <| sr ?_
 refine hs.o .la fun hs => ?_
 refine hs.o (.c1 (c_spec_ServerOk ..)) fun hs => hs.o .nt fun hs => nn ?_
 refine hs.cd (fun hb1 => ?_) fun hb1 => ?_
 ·exfalso; rw [hok] at hb1; cases hb1
  skip
 ·skip
  refine wp_skip <| then_n <| sr ?_
  refine hs.o .la fun hs => ?_
  refine hs.o (ok_call (c_spec_l21Copy s (by have := chain_small hp.2.1; have := chain_small hp.2.2.1; exact (serverOk_sok hok).small (by have := debts_len hp.2.2.2.1; omega))) (args_cons (.t rfl) args_nil)) fun hs => ?_
  refine hs.alloc rfl ty89 zc89 fun b3 I a w hs => ?_
  refine hs.sb 1 fun hs => ?_
  refine nn <| sr <| hs.o .fv fun hs => ?_
  refine hs.s1 1 fun hs => ?_
  refine nn <| sr <| hs.o (.ls 1) fun hs => ?_
  refine hs.sb 0 fun hs => ?_
  refine nn <| wp_ret ?_
  refine hs.ret rfl (.cons (.s 0 ty89 rfl rfl (by first | rfl | assumption)) ResL.nil) ?_
  rfl
theorem c_spec_ServerFall (s : Server) (hok : serverOk s = true) :
    Fn Tryz.prog 97 [s.av] ((fallS s).av) := by
 refine Fn.intro 14 Tryz.func97 rfl Tryz.ntmps97 rfl (by kernel_rfl) (fun W I a hs => ?_)
 have hp := serverOk_parts hok
 refine sr <| hs.o .bp fun hs => hs.alloc rfl ty89 zc89 fun b2 I a w hs => nn <| wp_seq <| sr ?_
 refine hs.o .la fun hs => ?_
 refine hs.o (.c1 (c_spec_ServerOk ..)) fun hs => hs.o .nt fun hs => nn ?_
 refine hs.cd (fun hb1 => ?_) fun hb1 => ?_
 ·exfalso; rw [hok] at hb1; cases hb1
  skip
 ·skip
  refine wp_skip <| then_n <| sr ?_
  refine hs.o .la fun hs => ?_
  refine hs.o (ok_call (c_spec_l21Copy s (by have := chain_small hp.2.1; have := chain_small hp.2.2.1; exact (serverOk_sok hok).small (by have := debts_len hp.2.2.2.1; omega))) (args_cons (.t rfl) args_nil)) fun hs => ?_
  refine hs.alloc rfl ty89 zc89 fun b3 I a w hs => ?_
  refine hs.sb 1 fun hs => ?_
  refine nn <| sr <| hs.o .fv fun hs => ?_
  refine hs.s1 1 fun hs => ?_
  refine nn <| sr ?_
  refine hs.lit0 rfl un87 ty165 (by decide) fun b11 I a w hs => ?_
  obtain ⟨I, hs, hf⟩ := hs.freezeRow 2 rfl
  have hs := hs.upd (t := 11) rfl hf; clear hf
  refine hs.o .fv fun hs => ?_
  refine hs.s1 1 fun hs => ?_
  refine nn <| sr <| hs.o (.ls 1) fun hs => ?_
  refine hs.sb 0 fun hs => ?_
  refine nn <| wp_ret ?_
  refine hs.ret rfl (.cons (.s 0 ty89 rfl rfl (by first | rfl | assumption)) ResL.nil) ?_
  rfl
set_option maxHeartbeats 4000000 in
theorem c_spec_l22Paid (s : Server) (m : Word) (hok : SrvOk s) (ho : s.owes.length ≤ 80) (hm : wordOk m = true) :
    Fn Tryz.prog 122 [s.av, m.av] ((hearPaid s m).av) := by
 refine Fn.intro 57 Tryz.func122 rfl Tryz.ntmps122 rfl (by kernel_rfl) (fun W I a hs => ?_)
 have hsl := verSlot_range (wordOk_key hm)
 have h3 := hok.slots
 have hdl := fun h => depI_lt (l := s.owes) (d := ⟨m.key, m.stamp⟩) h
 refine sr <| hs.box rfl .tt fun b2 I a w hs => hs.o .bp fun hs => hs.alloc rfl ty89 zc89 fun b4 I a w hs => nn <| sr <| hs.o .fv fun hs => hs.o (.lb 0) fun hs => hs.o .fp fun hs => hs.o .l1 fun hs => hs.o .fp fun hs => ?_
 refine hs.o .la fun hs => ?_
 refine hs.o (.bd zc165 (.k (.t Parts.nil))) fun hs => ?_
 refine hs.o (.cl (c_spec_l21Dep s.owes ⟨m.key, m.stamp⟩)) fun hs => ?_
 refine hs.s fun hs => nn <| wp_seq <| wp_seq <| hs.dk <| .o .fp <| .o .l1 <| .o (.c1 (c_spec_l1Site ..)) <| .o .nt <| .o .mv <| .q .F .fp ?_
 refine .q .F (.lx .ag) ?_
 refine .q .F (.cl (c_spec_SiteSide ..)) ?_
 refine .q .F .fv ?_
 refine .q .F (.lbx 0 .ag) ?_
 refine .q .F (.cl (c_spec_SiteSide ..)) ?_
 refine .q .F (ok_eqi .ag .ag) ?_
 refine .o .or <| .o .mv <| .q .F .mv ?_
 refine .q .F (ok_lss .ag .c) ?_
 refine .o .or <| .o .mv <| .q .F .fv ?_
 refine .q .F (.lbx 0 .ag) ?_
 refine .q .F .fp ?_
 refine .q .F (.lx .ag) ?_
 refine .q .F (.cl (c_spec_VerSlot ..)) ?_
 refine .q .F .ix ?_
 refine .q .F (.fx .ag) ?_
 refine .q .F (.lx .ag) ?_
 refine .q .F (ok_nei .ag .c) ?_
 refine .o .or <| .nil ?_
 intro I a w hs
 refine then_n ?_
 refine hs.cd (fun hb1 => ?_) fun hb1 => ?_
 ·rw [paid_test s m] at hb1; replace hb1 := nt hb1
  refine sr <| hs.o (.ls 0) fun hs => ?_
  refine hs.sb 1 fun hs => ?_
  refine nn <| wp_ret <| then_r ?_
  refine hs.ret rfl (.cons (.s 1 ty89 rfl rfl (by first | rfl | assumption)) ResL.nil) ?_
  exact (by unfold hearPaid; rw [hb1]; rfl)
 ·rw [paid_test s m] at hb1; replace hb1 := nf hb1
  refine wp_skip <| then_n <| wp_seq ?_
  have hs := hs.ownGone
  refine hs.drawD [([], none), ([], none), ([0], none), ([], none), ([], none), ([2], some (2, [48])), ([], none), ([0], none), ([], none), ([], none), ([], none), ([2], some (2, [])), ([], none), ([0], some (0, []))] (by kernel_rfl) (by kernel_rfl) rfl ?_
  refine .o (ok_lit0 un87 ty165) <| .o .fv ?_
  refine .r [0] (.lb 0) ?_
  refine .o .mv ?_
  refine .o (ok_slH un87 ty165 .r .tt (fun _ => by simp only [B] at hb1; have h9 := hdl (by omega); simp only [List.length_map]; omega)) ?_
  refine RunD.appendOB 2 rfl rfl un87 ty165 rfl .tt .r (by simp; omega) ?_
  refine .o .fv ?_
  refine .r [0] (.lb 0) ?_
  refine .o .mv ?_
  refine .o (ok_add .tt .c (fun _ => by simp only [B] at hb1; have h9 := hdl (by omega); omega)) ?_
  refine .o (ok_slL un87 ty165 .r .tt (fun _ => by simp only [B] at hb1; have h9 := hdl (by omega); simp only [List.length_map]; omega)) ?_
  refine RunD.appendN 2 rfl rfl un87 ty165 rfl .r (by simp; omega) ?_
  refine .o .fv ?_
  refine RunD.eff (x := AV.any) 0 (fun F W0 I0 I a w Q hs kk => hs.s1 0 fun hs => kk _ _ _ hs) ?_
  refine .nil ?_
  intro I a w hs
  rw [← List.map_take, ← List.map_drop, ← List.map_append] at hs
  refine then_n <| sr <| hs.o (.ls 0) fun hs => ?_
  refine hs.sb 1 fun hs => ?_
  refine nn <| wp_ret ?_
  refine hs.ret rfl (.cons (.s 1 ty89 rfl rfl (by first | rfl | assumption)) ResL.nil) ?_
  exact (by unfold hearPaid; rw [hb1]; have h9 := hdl (by simp only [B] at hb1; omega); rw [show ((depI s.owes ⟨m.key, m.stamp⟩) + 1).toNat = (depI s.owes ⟨m.key, m.stamp⟩).toNat + 1 by simp only [B] at hb1; omega]; rfl)
set_option maxHeartbeats 4000000 in
theorem c_spec_l22Have (s : Server) (m : Word) (hok : SrvOk s) (h0 : siteB s.site = true) :
    Fn Tryz.prog 125 [s.av, m.av] ((hearHave s m).av) := by
 refine Fn.intro 37 Tryz.func125 rfl Tryz.ntmps125 rfl (by kernel_rfl) (fun W I a hs => ?_)
 have h8 := hok.knows
 refine sr <| hs.box rfl .tt fun b2 I a w hs => hs.o .bp fun hs => hs.alloc rfl ty89 zc89 fun b4 I a w hs => nn <| sr <| hs.o .fp fun hs => hs.o .l1 fun hs => hs.o .fp fun hs => ?_
 refine hs.o .la fun hs => ?_
 refine hs.o (.bd zc165 (.k (.t Parts.nil))) fun hs => ?_
 refine hs.alloc rfl ty165 zc165 fun b5 I a w hs => ?_
 refine hs.sb 2 fun hs => ?_
 obtain ⟨I, hs, hf⟩ := hs.freezeBox 2 rfl
 have hs := hs.upd (t := 5) rfl hf; clear hf
 refine nn <| wp_seq <| wp_seq <| hs.dk <| .o .fp <| .o .l1 <| .o .fv <| .o (.lb 0) <| .o (.c1 (c_spec_l21Twin _ h0)) <| .o .nei <| .o .mv <| .q .F (.ls 0) ?_
 refine .q .F .la ?_
 refine .q .F (.cl (c_spec_l21Wanted s ⟨m.key, m.stamp⟩)) ?_
 refine .q .F (.ntx .ag) ?_
 refine .o .or <| .o .mv <| .q .F .fv ?_
 refine .q .F (.lbx 0 .ag) ?_
 refine .q .F .ln ?_
 refine .q .F (ok_geq .ag .c) ?_
 refine .o .or <| .nil ?_
 intro I a w hs
 refine then_n ?_
 refine hs.cd (fun hb1 => ?_) fun hb1 => ?_
 ·rw [have_test s m] at hb1; replace hb1 := nt hb1
  refine sr <| hs.o (.ls 0) fun hs => ?_
  refine hs.sb 1 fun hs => ?_
  refine nn <| wp_ret <| then_r ?_
  refine hs.ret rfl (.cons (.s 1 ty89 rfl rfl (by first | rfl | assumption)) ResL.nil) ?_
  exact (by unfold hearHave; rw [hb1]; rfl)
 ·rw [have_test s m] at hb1; replace hb1 := nf hb1
  refine wp_skip <| then_n <| sr <| hs.o .fv fun hs => hs.o (.lb 0) fun hs => ?_
  refine hs.o .la fun hs => ?_
  refine hs.o (ok_call (c_spec_l21PutDep s.knows ⟨m.key, m.stamp⟩ (by omega)) (args_cons .r (args_cons (.t rfl) args_nil))) fun hs => ?_
  refine hs.o .fv fun hs => ?_
  refine hs.s1 0 fun hs => ?_
  refine nn <| sr <| hs.o (.ls 0) fun hs => ?_
  refine hs.o (ok_call (c_spec_l21Settle { s with knows := addD s.knows ⟨m.key, m.stamp⟩ } (hok.knows_add (by simp only [B] at hb1; omega))) (args_cons (.t rfl) args_nil)) fun hs => ?_
  refine hs.sb 1 fun hs => ?_
  refine nn <| wp_ret ?_
  refine hs.ret rfl (.cons (.s 1 ty89 rfl rfl (by first | rfl | assumption)) ResL.nil) ?_
  exact (by unfold hearHave; rw [hb1]; rfl)
set_option maxHeartbeats 4000000 in
theorem c_spec_l22Gone (s : Server) (m : Word) (hok : SrvOk s) (h0 : siteB s.site = true) (ho : s.owes.length ≤ 80) (hm : wordOk m = true) :
    Fn Tryz.prog 127 [s.av, m.av] ((hearGone s m).av) := by
 refine Fn.intro 53 Tryz.func127 rfl Tryz.ntmps127 rfl (by kernel_rfl) (fun W I a hs => ?_)
 have hsl := wordOk_slot hm
 have h3 := hok.slots
 have h4 : (dropS s m.slot).slots.length = 3 := h3
 have e9 : ∀ x, x = Slot.cells ⟨m.epoch, 0⟩ → (List.map Slot.cells (dropS s m.slot).slots).set m.slot.toNat x = List.map Slot.cells (goneS s m).slots := fun x h => by rw [h]; exact List.map_set.symm
 refine sr <| hs.box rfl .tt fun b2 I a w hs => hs.o .bp fun hs => hs.alloc rfl ty89 zc89 fun b4 I a w hs => nn <| wp_seq <| wp_seq <| hs.dk <| .o .fp <| .o .l1 <| .o .fv <| .o (.lb 0) <| .o (.c1 (c_spec_l21Twin _ h0)) <| .o .nei <| .o .mv <| .q .F .fv ?_
 refine .q .F (.lbx 0 .ag) ?_
 refine .q .F .fp ?_
 refine .q .F (.lx .ag) ?_
 refine .q .F .ix ?_
 refine .q .F (.fx .ag) ?_
 refine .q .F (.lx .ag) ?_
 refine .q .F (ok_nei .ag .c) ?_
 refine .o .or <| .o .mv <| .q .F .fv ?_
 refine .q .F (.lbx 0 .ag) ?_
 refine .q .F .fp ?_
 refine .q .F (.lx .ag) ?_
 refine .q .F .ix ?_
 refine .q .F (.fx .ag) ?_
 refine .q .F (.lx .ag) ?_
 refine .q .F .fp ?_
 refine .q .F (.lx .ag) ?_
 refine .q .F (ok_nei .ag .ag) ?_
 refine .o .or <| .nil ?_
 intro I a w hs
 refine then_n ?_
 refine hs.cd (fun hb1 => ?_) fun hb1 => ?_
 ·rw [gone_test s m] at hb1; replace hb1 := nt hb1
  refine sr <| hs.o (.ls 0) fun hs => ?_
  refine hs.sb 1 fun hs => ?_
  refine nn <| wp_ret <| then_r ?_
  refine hs.ret rfl (.cons (.s 1 ty89 rfl rfl (by first | rfl | assumption)) ResL.nil) ?_
  exact (by unfold hearGone; rw [hb1]; rfl)
 ·rw [gone_test s m] at hb1; replace hb1 := nf hb1
  refine wp_skip <| then_n <| sr <| hs.o (.ls 0) fun hs => hs.o .fp fun hs => hs.o .l1 fun hs => hs.o (.c2 (c_spec_l21Drop s m.slot hok.vers hok.waits ho)) fun hs => ?_
  refine hs.sb 0 fun hs => ?_
  refine nn <| sr ?_
  refine hs.lit0 rfl un85 ty100 (by decide) fun b38 I a w hs => ?_
  refine hs.o .fv fun hs => hs.o (.lb 0) fun hs => ?_
  refine hs.append 2 rfl un85 ty100 rfl .tt .r rfl (by simp; omega) fun v41 a w hs => ?_
  refine hs.o .fv fun hs => ?_
  try have ho41 := hs.oneRow 2 rfl
  refine hs.s1 0 fun hs => ?_
  refine nn <| wp_seq ?_
  simp only [List.nil_append] at hs
  obtain ⟨b41, cap41, e41⟩ := hs.rowBlock 2 rfl (by simp only [List.length_map]; omega)
  subst e41
  refine St.region <| hs.o .fv fun hs => hs.o (.lb 0) fun hs => hs.o .fp fun hs => hs.o .l1 fun hs => hs.o .fp fun hs => hs.o .l1 fun hs => ?_
  refine hs.o (.bd zc100 (.k Parts.nil)) fun hs => ?_
  refine hs.o (ok_idxO un85 ty100 .tt .tt (fun _ => by simp only [List.length_map]; omega)) fun hs => ?_
  refine hs.storeRS 2 ty100 .tt .tt rfl (by exact map_get (by omega)) rfl rfl fun a w hs => ?_
  refine nn <| wp_seq ?_
  rw [e9] at hs
  rotate_left
  ·rfl
  obtain ⟨I, hs, hf⟩ := hs.freezeRow 2 rfl
  have hs := hs.updBox (q := 2) 0 rfl rfl hf
  refine St.region <| hs.o (.ls 0) fun hs => hs.o (.c1 (c_spec_l21Settle (goneS s m) (hok.gone m))) fun hs => ?_
  refine hs.sb 1 fun hs => ?_
  refine nn <| wp_ret ?_
  refine hs.ret rfl (.cons (.s 1 ty89 rfl rfl (by first | rfl | assumption)) ResL.nil) ?_
  exact (by unfold hearGone; rw [hb1]; rfl)
set_option maxHeartbeats 4000000 in
theorem c_spec_l22Get (s : Server) (m : Word) (hok : serverOk s = true) :
    Fn Tryz.prog 120 [s.av, m.av] (wordsAV (hearGet s m)) := by
 refine Fn.intro 68 Tryz.func120 rfl Tryz.ntmps120 rfl (by kernel_rfl) (fun W I a hs => ?_)
 have hp := serverOk_parts hok
 refine sr <| hs.o .bp fun hs => hs.o .bp fun hs => hs.sc fun hs => nn <| wp_seq <| sr <| hs.o .fp fun hs => hs.o .l1 fun hs => hs.o (.c1 (c_spec_l11Client ..)) fun hs => hs.o .nt fun hs => hs.m fun hs => hs.q .F .fp fun hs => ?_
 refine hs.q .F (.lx .ag) fun hs => ?_
 refine hs.q .F (ok_lss .ag .c) fun hs => ?_
 refine hs.o .or fun hs => hs.m fun hs => ?_
 refine hs.q .F .la fun hs => ?_
 refine hs.q .F .fp fun hs => ?_
 refine hs.q .F (.lx .ag) fun hs => ?_
 refine hs.q .F (.cl (c_spec_ServerOwns _ _ hok)) fun hs => ?_
 refine hs.q .F (.ntx .ag) fun hs => ?_
 refine hs.o .or fun hs => nn ?_
 refine hs.cd (fun hb1 => ?_) fun hb1 => ?_
 ·rw [client_test s m] at hb1; replace hb1 := nt hb1
  refine sr ?_
  refine hs.lit0 rfl un37 ty135 (by decide) fun b24 I a w hs => ?_
  refine hs.s fun hs => nn <| wp_ret <| then_r ?_
  obtain ⟨I, hs, hf⟩ := hs.freezeRow 0 rfl
  have hs := hs.upd (t := 4) rfl hf; clear hf
  refine hs.rt ?_
  exact (by unfold hearGet; rw [hb1]; rfl)
 ·rw [client_test s m] at hb1; replace hb1 := nf hb1
  refine wp_skip <| then_n <| sr <| hs.o .fp fun hs => hs.o .l1 fun hs => hs.o .fp fun hs => hs.o .l1 fun hs => ?_
  refine hs.o (.cl (c_spec_ChainTop _ _ hp.2.1)) fun hs => ?_
  refine hs.m fun hs => ?_
  refine hs.o .e fun hs => hs.o .e fun hs => hs.alloc rfl ty173 zc173 fun b5 I a w hs => ?_
  refine hs.sb 0 fun hs => ?_
  refine hs.s fun hs => nn <| wp_seq <| sr <| hs.o .fp fun hs => ?_
  refine hs.o .la fun hs => ?_
  refine hs.o (.bd zc115 Parts.nil) fun hs => ?_
  refine hs.o (ok_neS [_, _] [_, _] eqt115 rfl rfl .tt .tt) fun hs => nn ?_
  refine hs.cd (fun hb2 => ?_) fun hb2 => ?_
  ·rw [stamp_neq0 m.stamp] at hb2; replace hb2 := nt hb2
   refine sr <| hs.o .fp fun hs => hs.o .l1 fun hs => hs.o .fp fun hs => hs.o .l1 fun hs => hs.o .fp fun hs => ?_
   refine hs.o .la fun hs => ?_
   refine hs.o (.cl (c_spec_ChainAt ..)) fun hs => ?_
   refine hs.m fun hs => ?_
   refine hs.o .e fun hs => hs.o .e fun hs => ?_
   refine hs.sb 0 fun hs => ?_
   refine hs.s fun hs => nn <| sr <| hs.m fun hs => hs.o .nt fun hs => nn ?_
   refine hs.cd (fun hb3 => ?_) fun hb3 => ?_
   ·skip
    refine sr ?_
    refine hs.lit0 rfl un37 ty135 (by decide) fun b49 I a w hs => ?_
    refine hs.s fun hs => nn <| wp_ret <| then_r ?_
    obtain ⟨I, hs, hf⟩ := hs.freezeRow 1 rfl
    have hs := hs.upd (t := 4) rfl hf; clear hf
    refine hs.rt ?_
    exact (by unfold hearGet; rw [hb1, if_pos rfl, hb2, if_neg (by simp)]; rw [chainAt_atV hp.2.1] at hb3; rw [isNone_eq hb3]; rfl)
   ·skip
    refine wp_skip <| then_n <| sr <| hs.o .fp fun hs => hs.o .l1 fun hs => hs.o .fp fun hs => hs.o .l1 fun hs => hs.o .fp fun hs => hs.o .l1 fun hs => hs.o .fp fun hs => hs.o .l1 fun hs => hs.o .fp fun hs => ?_
    refine hs.o .la fun hs => ?_
    refine hs.m fun hs => ?_
    refine hs.o (.bd zc135 (.k (.k (.k (.k (.k (.t (.k Parts.nil)))))))) fun hs => ?_
    refine hs.alloc rfl ty135 zc135 fun b7 I a w hs => ?_
    refine hs.sb 1 fun hs => ?_
    refine nn <| wp_seq <| sr <| hs.m fun hs => nn ?_
    refine hs.cd (fun hb4 => ?_) fun hb4 => ?_
    ·skip
     refine St.region <| hs.o (.ls 0) fun hs => ?_
     refine hs.o (.li [_] zo173 (.u .nil)) fun hs => ?_
     refine hs.o .fv fun hs => ?_
     refine hs.s1 1 fun hs => ?_
     refine nn <| sr <| hs.o (.ls 1) fun hs => ?_
     refine hs.o (.li [_] zo135 (.u .nil)) fun hs => ?_
     refine hs.s fun hs => nn <| wp_ret ?_
     refine hs.rt ?_
     exact (by unfold hearGet; rw [hb1, if_pos rfl, hb2, if_neg (by simp)]; rw [chainAt_atV hp.2.1] at hb4 ⊢; obtain ⟨v, hv⟩ := Option.isSome_iff_exists.1 hb4; rw [hv]; rfl)
    ·skip
     refine wp_skip <| then_n <| sr <| hs.o (.ls 1) fun hs => ?_
     refine hs.o (.li [_] zo135 (.u .nil)) fun hs => ?_
     refine hs.s fun hs => nn <| wp_ret ?_
     refine hs.rt ?_
     exact (by simp only [B] at hb3; rw [hb3] at hb4; cases hb4)
  ·rw [stamp_neq0 m.stamp] at hb2; replace hb2 := nf hb2
   refine wp_skip <| then_n <| sr <| hs.o .fp fun hs => hs.o .l1 fun hs => hs.o .fp fun hs => hs.o .l1 fun hs => hs.o .fp fun hs => hs.o .l1 fun hs => hs.o .fp fun hs => hs.o .l1 fun hs => hs.o .fp fun hs => ?_
   refine hs.o .la fun hs => ?_
   refine hs.m fun hs => ?_
   refine hs.o (.bd zc135 (.k (.k (.k (.k (.k (.t (.k Parts.nil)))))))) fun hs => ?_
   refine hs.alloc rfl ty135 zc135 fun b7 I a w hs => ?_
   refine hs.sb 1 fun hs => ?_
   refine nn <| wp_seq <| sr <| hs.m fun hs => nn ?_
   refine hs.cd (fun hb5 => ?_) fun hb5 => ?_
   ·skip
    refine St.region <| hs.o (.ls 0) fun hs => ?_
    refine hs.o (.li [_] zo173 (.u .nil)) fun hs => ?_
    refine hs.o .fv fun hs => ?_
    refine hs.s1 1 fun hs => ?_
    refine nn <| sr <| hs.o (.ls 1) fun hs => ?_
    refine hs.o (.li [_] zo135 (.u .nil)) fun hs => ?_
    refine hs.s fun hs => nn <| wp_ret ?_
    refine hs.rt ?_
    exact (by unfold hearGet; rw [hb1, if_pos rfl, hb2, if_pos rfl]; obtain ⟨v, hv⟩ := Option.isSome_iff_exists.1 hb5; unfold getW; rw [hv]; rfl)
   ·skip
    refine wp_skip <| then_n <| sr <| hs.o (.ls 1) fun hs => ?_
    refine hs.o (.li [_] zo135 (.u .nil)) fun hs => ?_
    refine hs.s fun hs => nn <| wp_ret ?_
    refine hs.rt ?_
    exact (by unfold hearGet; rw [hb1, if_pos rfl, hb2, if_pos rfl]; unfold getW; rw [show topV s.vers m.key = none from isNone_eq (by rw [hb5]; rfl)]; rfl)
end Go.Proofs.YtkoebplikhlapaaGreatDoor
