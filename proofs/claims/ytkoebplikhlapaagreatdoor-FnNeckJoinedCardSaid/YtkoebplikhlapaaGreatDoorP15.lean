/- Part 15: rules of the proofs, contracts of functions, plain facts. -/
import Derived.Test.YtkoebplikhlapaaGreatDoorP13
import Derived.Test.YtkoebplikhlapaaGreatDoorP14
set_option linter.unusedVariables false
set_option linter.unusedSimpArgs false
set_option maxRecDepth 100000
namespace Go.Proofs.YtkoebplikhlapaaGreatDoor
open Go Go.RowKit
theorem c_impl_in (n a b : Int) :
    Fn Tryz.prog 58 [AV.int n, AV.int a, AV.int b] (AV.bool (inB n a b)) := by
 refine Fn.intro 15 Tryz.func58 rfl Tryz.ntmps58 rfl (by kernel_rfl) (fun W I a hs => ?_)
 refine sr <| hs.sc fun hs => nn <| sr <| hs.m fun hs => hs.m fun hs => hs.o .leq fun hs => hs.m fun hs => hs.q .T .mv fun hs => hs.q .T .mv fun hs => ?_
 refine hs.q .T (ok_leq .ag .ag) fun hs => ?_
 refine hs.o .an fun hs => hs.s fun hs => nn <| wp_ret ?_
 refine hs.rt ?_
 rfl
theorem c_spec_l6In (n a b : Int) :
    Fn Tryz.prog 74 [AV.int n, AV.int a, AV.int b] (AV.bool (inB n a b)) := by
 refine Fn.intro 15 Tryz.func74 rfl Tryz.ntmps74 rfl (by kernel_rfl) (fun W I a hs => ?_)
 refine sr <| hs.sc fun hs => nn <| sr <| hs.m fun hs => hs.m fun hs => hs.o .geq fun hs => hs.m fun hs => hs.q .T .mv fun hs => hs.q .T .mv fun hs => ?_
 refine hs.q .T (ok_leq .ag .ag) fun hs => ?_
 refine hs.o .an fun hs => hs.s fun hs => nn <| wp_ret ?_
 refine hs.rt ?_
 exact ret_bool (by simp only [inB, ge_iff_le])
theorem c_spec_l1Site (n : Int) :
    Fn Tryz.prog 61 [AV.int n] (AV.bool (siteB n)) := by
 refine Fn.intro 5 Tryz.func61 rfl Tryz.ntmps61 rfl (by kernel_rfl) (fun W I a hs => ?_)
 refine sr <| hs.sc fun hs => nn <| sr <| hs.m fun hs => ?_
 refine hs.o (.cl (c_spec_l6In ..)) fun hs => ?_
 refine hs.s fun hs => nn <| wp_ret ?_
 refine hs.rt ?_
 rfl
theorem c_spec_l2Key (n : Int) :
    Fn Tryz.prog 155 [AV.int n] (AV.bool (keyB n)) := by
 refine Fn.intro 5 Tryz.func155 rfl Tryz.ntmps155 rfl (by kernel_rfl) (fun W I a hs => ?_)
 refine sr <| hs.sc fun hs => nn <| sr <| hs.m fun hs => ?_
 refine hs.o (.cl (c_spec_l6In ..)) fun hs => ?_
 refine hs.s fun hs => nn <| wp_ret ?_
 refine hs.rt ?_
 rfl
theorem c_spec_StampOk (s : Stamp) :
    Fn Tryz.prog 142 [s.av] (AV.bool (stampOk s)) := by
 refine Fn.intro 11 Tryz.func142 rfl Tryz.ntmps142 rfl (by kernel_rfl) (fun W I a hs => ?_)
 refine sr <| hs.o .bp fun hs => hs.sc fun hs => nn <| sr <| hs.o .fp fun hs => hs.o .l1 fun hs => ?_
 refine hs.o (.cl (c_spec_l6In ..)) fun hs => ?_
 refine hs.m fun hs => hs.q .T .fp fun hs => ?_
 refine hs.q .T (.lx .ag) fun hs => ?_
 refine hs.q .T (.cl (c_spec_l1Site ..)) fun hs => ?_
 refine hs.o .an fun hs => hs.s fun hs => nn <| wp_ret ?_
 refine hs.rt ?_
 rfl
theorem c_spec_l11Stamp (s : Stamp) :
    Fn Tryz.prog 138 [s.av] (AV.bool (stampFits s)) := by
 refine Fn.intro 10 Tryz.func138 rfl Tryz.ntmps138 rfl (by kernel_rfl) (fun W I a hs => ?_)
 refine sr <| hs.o .bp fun hs => hs.sc fun hs => nn <| sr ?_
 refine hs.o .la fun hs => ?_
 refine hs.o (.bd zc115 Parts.nil) fun hs => ?_
 refine hs.o (ok_eqS [_, _] [_, _] eqt115 rfl rfl .tt .tt) fun hs => hs.m fun hs => ?_
 refine hs.q .F .la fun hs => ?_
 refine hs.q .F (.cl (c_spec_StampOk ..)) fun hs => ?_
 refine hs.o .or fun hs => hs.s fun hs => nn <| wp_ret ?_
 refine hs.rt ?_
 exact ret_bool (by simp [stampFits, stampNone])
theorem c_spec_StampLess (s t : Stamp) :
    Fn Tryz.prog 141 [s.av, t.av] (AV.bool (stampLess s t)) := by
 refine Fn.intro 24 Tryz.func141 rfl Tryz.ntmps141 rfl (by kernel_rfl) (fun W I a hs => ?_)
 refine sr <| hs.o .bp fun hs => hs.o .bp fun hs => hs.sc fun hs => nn <| sr <| hs.o .fp fun hs => hs.o .l1 fun hs => hs.o .fp fun hs => hs.o .l1 fun hs => hs.o .lss fun hs => hs.m fun hs => hs.q .F .fp fun hs => ?_
 refine hs.q .F (.lx .ag) fun hs => ?_
 refine hs.q .F .fp fun hs => ?_
 refine hs.q .F (.lx .ag) fun hs => ?_
 refine hs.q .F (ok_eqi .ag .ag) fun hs => ?_
 refine hs.q .F (.mx .ag) fun hs => ?_
 refine hs.q .T2 .fp fun hs => ?_
 refine hs.q .T2 (.lx .ag) fun hs => ?_
 refine hs.q .T2 .fp fun hs => ?_
 refine hs.q .T2 (.lx .ag) fun hs => ?_
 refine hs.q .T2 (ok_lss .ag .ag) fun hs => ?_
 refine hs.q .F (ok_and .ag .pc .c) fun hs => ?_
 refine hs.o .or fun hs => hs.s fun hs => nn <| wp_ret ?_
 refine hs.rt ?_
 rfl
theorem c_spec_SiteSide (n : Int) :
    Fn Tryz.prog 130 [AV.int n] (AV.int (siteSide n)) := by
 refine Fn.intro 8 Tryz.func130 rfl Tryz.ntmps130 rfl (by kernel_rfl) (fun W I a hs => ?_)
 refine sr <| hs.sc fun hs => nn <| wp_seq <| sr <| hs.m fun hs => hs.o (.c1 (c_spec_l1Site ..)) fun hs => hs.o .nt fun hs => nn ?_
 refine hs.cd (fun hb1 => ?_) fun hb1 => ?_
 ·try simp only [B] at hb1
  refine sr <| hs.sc fun hs => nn <| wp_ret <| then_r ?_
  refine hs.rt ?_
  exact ret_int (by simp [siteSide, hb1])
 ·try simp only [B] at hb1
  refine wp_skip <| then_n <| sr <| hs.m fun hs => ?_
  refine hs.o (ok_quo .tt .c (fun _ => by simp [siteB, inB] at hb1; omega)) fun hs => ?_
  refine hs.s fun hs => nn <| wp_ret ?_
  refine hs.rt ?_
  exact ret_int (by simp [siteSide, hb1])
def prevKey (l : List Dep) (k : Nat) : Int := if k = 0 then -1 else (elt l (k - 1)).key
theorem prevKey_succ (l : List Dep) (k : Nat) : prevKey l (k + 1) = (elt l k).key := by simp [prevKey]
theorem depsOk_step {l : List Dep} {k : Nat} (hk : k < l.length) : depsFrom (prevKey l k) (l.drop k) = (inB (elt l k).key (prevKey l k + 1) 5 && stampOk (elt l k).stamp && depsFrom (prevKey l (k + 1)) (l.drop (k + 1))) := by
  rw [drop_elt hk, prevKey_succ]; rfl
theorem depsOk_test {l : List Dep} {k : Nat} (hp : -1 ≤ prevKey l k) : (!keyB (elt l k).key || !stampOk (elt l k).stamp || (decide (0 < (k : Int)) && decide ((elt l k).key ≤ (elt l ((k : Int) - 1).toNat).key))) = !(inB (elt l k).key (prevKey l k + 1) 5 && stampOk (elt l k).stamp) := by
  rw [show ((k : Int) - 1).toNat = k - 1 from by omega]
  rcases Nat.eq_zero_or_pos k with rfl | h
  · simp [prevKey, keyB, inB]
  · have h0 : k ≠ 0 := by omega
    have hp' : -1 ≤ (elt l (k - 1)).key := by simpa [prevKey, h0] using hp
    have h1 : (0 < (k : Int)) := by omega
    simp only [prevKey, if_neg h0, keyB, inB]
    generalize (elt l (k - 1)).key = p at *
    generalize (elt l k).key = q at *
    rw [Bool.eq_iff_iff]
    cases stampOk (elt l k).stamp <;> simp [h1] <;> omega
theorem spec_next {l : List Dep} {k : Nat} (hk : k < l.length) (hd : depsOk l = depsFrom (prevKey l k) (l.drop k)) (hp : -1 ≤ prevKey l k) (h : (inB (elt l k).key (prevKey l k + 1) 5 && stampOk (elt l k).stamp) = true) :
    k + 1 ≤ l.length ∧ depsOk l = depsFrom (prevKey l (k + 1)) (l.drop (k + 1)) ∧ -1 ≤ prevKey l (k + 1) := by
  refine ⟨hk, by rw [hd, depsOk_step hk, h, Bool.true_and], ?_⟩
  rw [prevKey_succ]
  simp [inB] at h; omega
theorem spec_bad {l : List Dep} {k : Nat} (hk : k < l.length) (hd : depsOk l = depsFrom (prevKey l k) (l.drop k)) (h : (inB (elt l k).key (prevKey l k + 1) 5 && stampOk (elt l k).stamp) = false) : false = depsOk l := by
  rw [hd, depsOk_step hk, h, Bool.false_and]
theorem c_spec_DepsOk (l : List Dep) :
    Fn Tryz.prog 137 [depsAV l] (AV.bool (depsOk l)) := by
 refine Fn.intro 44 Tryz.func137 rfl Tryz.ntmps137 rfl (by kernel_rfl) (fun W I a hs => ?_)
 have hle := hs.lenleM (t := 0) rfl
 refine sr <| hs.sc fun hs => nn <| wp_seq <| sr <| hs.sc fun hs => nn <| wp_block ?_
 refine St.lo (σ := Nat) (run 42 2 []) ⟨fun k => [(3, AV.int k)], fun k => [], fun k => k ≤ l.length ∧ depsOk l = depsFrom (prevKey l k) (l.drop k) ∧ -1 ≤ prevKey l k⟩ (fun k => l.length - k) 0 hs ?ok1 ?round1
 case ok1 => exact ⟨by simp, rfl, by simp [prevKey]⟩
 case round1 =>
  rintro k I a w hok hs
  obtain ⟨hk, hd, hp⟩ := hok
  refine wp_seq <| sr <| hs.m fun hs => hs.m fun hs => ?_
  refine hs.o .ln fun hs => ?_
  refine hs.o .lss fun hs => nn ?_
  refine hs.cd (fun hb1 => ?_) fun hb1 => ?_
  ·try simp only [B] at hb1
   refine wp_skip <| then_n <| wp_seq <| wp_block <| wp_seq <| hs.dk <| .o .mv <| .o .mv ?_
   refine .o ((by first | exact ok_idxN un87 ty165 .tt .tt (fun _ => by assumption) | exact ok_idxM un87 ty165 .tt .tt (fun _ => by assumption) | exact ok_idx un87 ty165 .tt .tt (fun _ => by assumption))) ?_
   refine .o .fp <| .o .l1 <| .o (.c1 (c_spec_l2Key ..)) <| .o .nt <| .o .mv <| .q .F .mv <| .q .F .mv ?_
   refine .q .F ((by first | exact ok_idxN un87 ty165 .ag .ag (fun hg => by assumption) | exact ok_idxM un87 ty165 .ag .ag (fun hg => by assumption) | exact ok_idx un87 ty165 .ag .ag (fun hg => by assumption))) ?_
   refine .q .F (.fx .ag) ?_
   refine .q .F .la ?_
   refine .q .F (.cl (c_spec_StampOk ..)) ?_
   refine .q .F (.ntx .ag) ?_
   refine .o .or <| .o .mv <| .q .F .mv ?_
   refine .q .F (ok_gtr .ag .c) ?_
   refine .q .F (.mx .ag) ?_
   refine .q .T2 .mv <| .q .T2 .mv ?_
   refine .q .T2 (ok_sub .ag .c (fun hg => by simp at hg; omega)) ?_
   refine .q .T2 .ix ?_
   refine .q .T2 (.fx .ag) ?_
   refine .q .T2 (.lx .ag) ?_
   refine .q .T2 .mv <| .q .T2 .mv ?_
   refine .q .T2 ((by first | exact ok_idxN un87 ty165 .ag .ag (fun hg => by assumption) | exact ok_idxM un87 ty165 .ag .ag (fun hg => by assumption) | exact ok_idx un87 ty165 .ag .ag (fun hg => by assumption))) ?_
   refine .q .T2 (.fx .ag) ?_
   refine .q .T2 (.lx .ag) ?_
   refine .q .T2 (ok_geq .ag .ag) ?_
   refine .q .F (ok_and .ag .pc .c) ?_
   refine .o .or <| .nil ?_
   intro I a w hs
   refine then_n ?_
   refine hs.cd (fun hb2 => ?_) fun hb2 => ?_
   ·rw [depsOk_test hp] at hb2; simp only [Bool.not_eq_true'] at hb2
    refine sr <| hs.sc fun hs => nn <| wp_ret <| block_r <| then_r <| then_r <| block_r <| then_r ?_
    refine hs.rt ?_
    exact ret_bool (spec_bad hb1 hd hb2)
   ·rw [depsOk_test hp] at hb2; simp only [Bool.not_eq_false'] at hb2
    refine wp_skip <| block_n <| then_n <| St.region <| hs.m fun hs => ?_
    refine hs.o .ad fun hs => ?_
    refine hs.s fun hs => nn ?_
    exact hs.ag (k + 1) (spec_next hb1 hd hp hb2)
  ·try simp only [B] at hb1
   refine wp_exit <| then_x <| then_x <| block_hit <| then_n <| sr <| hs.sc fun hs => nn <| wp_ret ?_
   refine hs.rt ?_
   exact ret_bool (by rw [hd, List.drop_eq_nil_of_le (by omega)]; rfl)
def textCell (l : List UInt8) : List AV := [.text l]
def textsAV (l : List (List UInt8)) : AV := .rows 1 (l.map textCell)
theorem c_impl_isWritten (n : Int) :
    Fn Tryz.prog 36 [AV.int n] (AV.bool (written n)) := by
 refine Fn.intro 5 Tryz.func36 rfl Tryz.ntmps36 rfl (by kernel_rfl) (fun W I a hs => ?_)
 refine sr <| hs.sc fun hs => nn <| sr <| hs.m fun hs => ?_
 refine hs.o (.cl (c_impl_in ..)) fun hs => ?_
 refine hs.s fun hs => nn <| wp_ret ?_
 refine hs.rt ?_
 rfl
theorem c_spec_l45Names  :
    Fn Tryz.prog 31 [] (textsAV names) := by
 refine Fn.intro 2 Tryz.func31 rfl Tryz.ntmps31 rfl (by kernel_rfl) (fun W I a hs => ?_)
 refine sr <| hs.sc fun hs => nn <| sr ?_
 refine hs.o (.li [[AV.val (.string ⟨#[]⟩)], [AV.val (.string ⟨#[]⟩)], [AV.val (.string ⟨#[115, 101, 110, 100, 115]⟩)], [AV.val (.string ⟨#[103, 105, 118, 101, 115]⟩)], [AV.val (.string ⟨#[98, 114, 105, 110, 103, 115]⟩)], [AV.val (.string ⟨#[108, 111, 115, 101, 115]⟩)], [AV.val (.string ⟨#[102, 97, 108, 108, 115]⟩)], [AV.val (.string ⟨#[114, 105, 115, 101, 115]⟩)], [AV.val (.string ⟨#[116, 101, 110, 100, 115]⟩)], [AV.val (.string ⟨#[109, 111, 118, 101, 115]⟩)], [AV.val (.string ⟨#[112, 117, 116, 115]⟩)], [AV.val (.string ⟨#[114, 101, 97, 100, 115]⟩)], [AV.val (.string ⟨#[100, 111, 117, 98, 108, 101, 115]⟩)]] zo9 (.v (.v (.v (.v (.v (.v (.v (.v (.v (.v (.v (.v (.v .nil)))))))))))))) fun hs => ?_
 refine hs.s fun hs => nn <| wp_ret ?_
 refine hs.rt ?_
 rfl
def zeroEv : List AV := List.replicate 11 (.int 0)
def decMu (n : Int) : Nat := 2 * n.natAbs + (if n < 0 then 1 else 0)
theorem dec_len {n : Int} (h : i64r n) : (dec n).length ≤ 21 := Lib.itoa_length_le n h.1 h.2
theorem dec_min : dec (-9223372036854775808) = [45, 57, 50, 50, 51, 51, 55, 50, 48, 51, 54, 56, 53, 52, 55, 55, 53, 56, 48, 56] := by
  simp [dec, Lib.itoa, Lib.decDigits]
theorem dec_neg {n : Int} (h : n < 0) : [45] ++ dec (-n) = dec n := by
  unfold dec Lib.itoa
  rw [if_pos h, if_neg (by omega), show (-n).toNat = n.natAbs from by omega]; rfl
theorem dec_small {n : Int} (h0 : 0 ≤ n) (h : n < 10) : [UInt8.ofNat (48 + n).toNat] = dec n := by
  unfold dec Lib.itoa
  rw [if_neg (by omega), Lib.decDigits, dif_pos (by omega), show (48 + n).toNat = 48 + n.toNat from by omega]
theorem dec_big {n : Int} (h : 10 ≤ n) : dec (n / 10) ++ [UInt8.ofNat (48 + n % 10).toNat] = dec n := by
  unfold dec Lib.itoa
  rw [if_neg (by omega), if_neg (by omega)]
  conv => rhs; rw [Lib.decDigits, dif_neg (by omega)]
  rw [show (n / 10).toNat = n.toNat / 10 from by omega, show (48 + n % 10).toNat = 48 + n.toNat % 10 from by omega]
theorem l6Dec_step (N : Nat) (ih : ∀ n : Int, decMu n < N → i64r n → Fn Tryz.prog 38 [AV.int n] (AV.text (dec n))) (n : Int) (hN : decMu n = N) (h : i64r n) :
    Fn Tryz.prog 38 [AV.int n] (AV.text (dec n)) := by
 refine Fn.intro 28 Tryz.func38 rfl Tryz.ntmps38 rfl (by kernel_rfl) (fun W I a hs => ?_)
 obtain ⟨h1, h2⟩ := id h
 refine sr <| hs.sc fun hs => nn <| wp_seq <| sr <| hs.m fun hs => hs.o .lssc fun hs => nn ?_
 refine hs.cd (fun hb1 => ?_) fun hb1 => ?_
 ·try simp only [B] at hb1
  refine sr <| hs.sc fun hs => nn <| wp_ret <| then_r ?_
  refine hs.rt ?_
  exact ret_av (by rw [show n = -9223372036854775808 from by omega]; rw [dec_min])
 ·try simp only [B] at hb1
  refine wp_skip <| then_n <| wp_seq <| sr <| hs.m fun hs => hs.o .lssc fun hs => nn ?_
  refine hs.cd (fun hb2 => ?_) fun hb2 => ?_
  ·try simp only [B] at hb2
   refine sr <| hs.m fun hs => ?_
   refine hs.o (ok_negI .tt (fun _ => by omega)) fun hs => ?_
   refine hs.o (ok_call (ih (-n) (by simp only [decMu] at *; split at hN <;> split <;> omega) ⟨by omega, by omega⟩) (args_cons (.t rfl) args_nil)) fun hs => ?_
   refine hs.o (ok_cat .c .tt (fun _ => by have := dec_len (n := -n) ⟨by omega, by omega⟩; simp only [List.length_cons, List.length_nil]; omega)) fun hs => ?_
   refine hs.s fun hs => nn <| wp_ret <| then_r ?_
   refine hs.rt ?_
   exact ret_av (by rw [dec_neg (by omega)])
  ·try simp only [B] at hb2
   refine wp_skip <| then_n <| wp_seq <| sr <| hs.m fun hs => hs.o .lssc fun hs => nn ?_
   refine hs.cd (fun hb3 => ?_) fun hb3 => ?_
   ·try simp only [B] at hb3
    refine sr <| hs.m fun hs => ?_
    refine hs.o .ad fun hs => ?_
    refine hs.o (ok_to8 (by kernel_rfl) un5 .tt (fun _ => by omega)) fun hs => ?_
    refine hs.o (.li [_] zo5 (.v .nil)) fun hs => ?_
    refine hs.o (ok_text1 un22 un5 un9 .tt) fun hs => hs.s fun hs => nn <| wp_ret <| then_r ?_
    refine hs.rt ?_
    exact ret_av (by rw [dec_small (by omega) (by omega)])
   ·try simp only [B] at hb3
    refine wp_skip <| then_n <| wp_seq <| hs.dk <| .o .mv ?_
    refine .o (ok_quo .tt .c (fun _ => by omega)) ?_
    refine .o (ok_call (ih (n / 10) (by simp only [decMu] at *; split at hN <;> split <;> omega) ⟨by omega, by omega⟩) (args_cons (.t rfl) args_nil)) ?_
    refine .o .mv ?_
    refine .o (ok_rem .tt .c (fun _ => by omega)) ?_
    refine .o .ad ?_
    refine .o (ok_to8 (by kernel_rfl) un5 .tt (fun _ => by omega)) ?_
    refine .o (.li [_] zo5 (.v .nil)) ?_
    refine .o (ok_text1 un22 un5 un9 .tt) ?_
    refine .o (ok_cat .tt .tt (fun _ => by have := dec_len (n := n / 10) ⟨by omega, by omega⟩; simp only [List.length_cons, List.length_nil]; omega)) ?_
    refine .o .as <| .nil ?_
    intro I a w hs
    refine then_n <| wp_ret ?_
    refine hs.rt ?_
    exact ret_av (by rw [dec_big (by omega)])
theorem c_spec_l6Dec (n : Int) (h : i64r n) : Fn Tryz.prog 38 [AV.int n] (AV.text (dec n)) := by
  have key : ∀ N, ∀ n : Int, decMu n = N → i64r n → Fn Tryz.prog 38 [AV.int n] (AV.text (dec n)) := by
    intro N
    induction N using Nat.strongRecOn with
    | _ N ih => exact fun n hN h => l6Dec_step N (fun k hk hk2 => ih _ hk k rfl hk2) n hN h
  exact key _ n rfl h
theorem numB_take {s : List UInt8} {k : Nat} (h : k < s.length) : numB (s.take (k + 1)) = numB (s.take k) * 10 + (((s.getD k 0).toNat : Int) - 48) := by
  rw [List.take_succ_eq_append_getElem h]
  unfold numB
  rw [List.foldl_append]
  simp [h]
theorem digit_iff (x : UInt8) : digitB x = (decide (48 ≤ (x.toNat : Int)) && decide ((x.toNat : Int) ≤ 57)) := by
  simp only [digitB]; congr 1 <;> simp <;> omega
theorem digit_test (x : UInt8) : (decide ((x.toNat : Int) < 48) || decide (57 < (x.toNat : Int))) = !digitB x := by
  rw [digit_iff, Bool.eq_iff_iff]; simp
theorem getD_mem {s : List UInt8} {k : Nat} (h : k < s.length) : s.getD k 0 ∈ s := by
  rw [List.getD_eq_getElem?_getD, List.getElem?_eq_getElem h]; exact List.getElem_mem _
theorem numB_le : ∀ (k : Nat) (s : List UInt8), (∀ i, i < k → digitB (s.getD i 0) = true) → k ≤ s.length → 0 ≤ numB (s.take k) ∧ numB (s.take k) < 10 ^ k
  | 0, s, _, _ => by simp [numB]
  | k + 1, s, h, hk => by
    have ih := numB_le k s (fun i hi => h i (by omega)) (by omega)
    rw [numB_take (by omega)]
    have h1 := h k (by omega)
    rw [digit_iff] at h1
    simp only [Bool.and_eq_true, decide_eq_true_eq] at h1
    rw [Int.pow_succ]
    omega
theorem parse_len {s : List UInt8} (h : (decide ((s.length : Int) < 1) || decide (5 < (s.length : Int))) = true) : -1 = parseB s := by
  unfold parseB; rw [if_pos]; simp at h; omega
theorem parse_bad {s : List UInt8} {k : Nat} (hk : k < s.length) (h : (!digitB (s.getD k 0)) = true) : -1 = parseB s := by
  unfold parseB
  split
  · rfl
  · rw [if_neg]
    intro hh
    rw [List.all_eq_true] at hh
    have := hh _ (getD_mem hk)
    rw [this] at h; cases h
theorem parse_all {s : List UInt8} {k : Nat} (hl : (decide ((s.length : Int) < 1) || decide (5 < (s.length : Int))) = false) (hk : s.length ≤ k) (h : ∀ i, i < k → digitB (s.getD i 0) = true) : parseB s = if dec (numB s) = s then numB s else -1 := by
  unfold parseB
  simp at hl
  rw [if_neg (by omega), if_pos]
  rw [List.all_eq_true]
  intro x hx
  obtain ⟨i, hi, rfl⟩ := List.getElem_of_mem hx
  have := h i (by omega)
  rwa [List.getD_eq_getElem?_getD, List.getElem?_eq_getElem hi] at this
theorem c_spec_l45Dec (s : List UInt8) :
    Fn Tryz.prog 30 [AV.text s] (AV.int (parseB s)) := by
 refine Fn.intro 42 Tryz.func30 rfl Tryz.ntmps30 rfl (by kernel_rfl) (fun W I a hs => ?_)
 refine sr <| hs.sc fun hs => nn <| wp_seq <| sr <| hs.m fun hs => hs.o (ok_lenT un9 .tt) fun hs => hs.o .lssc fun hs => hs.m fun hs => hs.q .F .mv fun hs => ?_
 refine hs.q .F (ok_lenT un9 .ag) fun hs => ?_
 refine hs.q .F (ok_gtr .ag .c) fun hs => ?_
 refine hs.o .or fun hs => nn ?_
 refine hs.cd (fun hb1 => ?_) fun hb1 => ?_
 ·skip
  refine sr <| hs.sc fun hs => nn <| wp_ret <| then_r ?_
  refine hs.rt ?_
  exact ret_int (parse_len hb1)
 ·skip
  refine wp_skip <| then_n <| sr <| hs.sc fun hs => nn <| wp_seq <| sr <| hs.sc fun hs => nn <| wp_block ?_
  refine St.lo (σ := Nat) (run 3 2 (run 24 13 [])) ⟨fun k => [(4, AV.int k), (3, AV.int (numB (s.take k)))], fun k => [], fun k => k ≤ s.length ∧ ∀ i, i < k → digitB (s.getD i 0) = true⟩ (fun k => s.length - k) 0 hs ?ok1 ?round1
  case ok1 => exact ⟨by omega, fun i hi => by omega⟩
  case round1 =>
   rintro k I a w hok hs
   obtain ⟨hk, hall⟩ := hok
   have hl5 : s.length ≤ 5 := by simp at hb1; omega
   have hnb := numB_le k s hall hk
   have hp5 : (10 : Int) ^ k ≤ 10 ^ 5 := by exact_mod_cast Nat.pow_le_pow_right (by omega) (by omega : k ≤ 5)
   refine wp_seq <| sr <| hs.m fun hs => hs.m fun hs => hs.o (ok_lenT un9 .tt) fun hs => hs.o .lss fun hs => nn ?_
   refine hs.cd (fun hb2 => ?_) fun hb2 => ?_
   ·try simp only [B] at hb2
    refine wp_skip <| then_n <| wp_seq <| wp_block <| wp_seq <| sr <| hs.m fun hs => hs.m fun hs => ?_
    refine hs.o (ok_idxT un9 .tt .tt (fun _ => by omega)) fun hs => ?_
    refine hs.o (ok_lss8 .tt .c) fun hs => hs.m fun hs => hs.q .F .mv fun hs => hs.q .F .mv fun hs => ?_
    refine hs.q .F (ok_idxT un9 .ag .ag (fun hg => by omega)) fun hs => ?_
    refine hs.q .F (ok_gtr8 .ag .c) fun hs => ?_
    refine hs.o .or fun hs => nn ?_
    refine hs.cd (fun hb3 => ?_) fun hb3 => ?_
    ·rw [digit_test] at hb3
     refine sr <| hs.sc fun hs => nn <| wp_ret <| then_r <| block_r <| then_r <| then_r <| block_r <| then_r ?_
     refine hs.rt ?_
     exact ret_int (parse_bad hb2 hb3)
    ·rw [digit_test, Bool.not_eq_false'] at hb3
     refine wp_skip <| then_n <| St.region <| hs.m fun hs => ?_
     refine hs.o (ok_mul .tt .c (fun _ => by omega)) fun hs => ?_
     refine hs.m fun hs => hs.m fun hs => ?_
     refine hs.o (ok_idxT un9 .tt .tt (fun _ => by omega)) fun hs => ?_
     refine hs.o (ok_sub8 .tt .c (fun _ => by have h3 := hb3; rw [digit_iff] at h3; simp only [Bool.and_eq_true, decide_eq_true_eq] at h3; omega)) fun hs => ?_
     refine hs.o (ok_of8 (by kernel_rfl) un3 .tt (fun _ => by have h3 := hb3; rw [digit_iff] at h3; simp only [Bool.and_eq_true, decide_eq_true_eq] at h3; omega)) fun hs => ?_
     refine hs.o (ok_add .tt .tt (fun _ => by have h3 := hb3; rw [digit_iff] at h3; simp only [Bool.and_eq_true, decide_eq_true_eq] at h3; omega)) fun hs => ?_
     refine hs.s fun hs => wpList_nil <| block_n <| then_n <| St.region <| hs.m fun hs => ?_
     refine hs.o .ad fun hs => ?_
     refine hs.s fun hs => nn ?_
     refine hs.again (k + 1) ?mu1 ?ok1001 (by rfl) ?env1001 (by repeat (first | exact Env.le_rfl | refine Env.le_push rfl ?_))
     case mu1 => omega
     case ok1001 => exact ⟨by omega, fun i hi => by rcases Nat.lt_succ_iff_lt_or_eq.1 hi with h | h; exact hall i h; rw [h]; exact hb3⟩
     case env1001 => exact (Env.le_consE rfl (by rfl) (Env.le_consE rfl (by rw [numB_take hb2]; rfl) Env.le_nil))
   ·try simp only [B] at hb2
    refine wp_exit <| then_x <| then_x <| block_hit <| then_n <| wp_seq <| sr <| hs.m fun hs => ?_
    refine hs.o (.c1 (c_spec_l6Dec (numB (s.take k)) ⟨by omega, by omega⟩)) fun hs => ?_
    refine hs.m fun hs => hs.o (ok_neT .tt .tt) fun hs => nn ?_
    refine hs.cd (fun hb4 => ?_) fun hb4 => ?_
    ·try simp only [B] at hb4
     refine sr <| hs.sc fun hs => nn <| wp_ret <| then_r ?_
     refine hs.rt ?_
     exact ret_int (by rw [List.take_of_length_le (by omega)] at hb4; rw [parse_all hb1 (by omega) hall, if_neg hb4])
    ·try simp only [B] at hb4
     refine wp_skip <| then_n <| sr <| hs.m fun hs => hs.s fun hs => nn <| wp_ret ?_
     refine hs.rt ?_
     exact ret_int (by rw [List.take_of_length_le (by omega)] at *; rw [parse_all hb1 (by omega) hall, if_pos hb4])
end Go.Proofs.YtkoebplikhlapaaGreatDoor
