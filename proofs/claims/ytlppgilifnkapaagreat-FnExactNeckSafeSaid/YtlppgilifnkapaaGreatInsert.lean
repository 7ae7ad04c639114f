/- Walks: slices.Insert. -/
import Derived.Test.YtlppgilifnkapaaGreatTypes
import Derived.Test.YtlppgilifnkapaaGreatGive
import Derived.Test.YtlppgilifnkapaaGreatCall1
set_option linter.unusedVariables false
set_option linter.unusedSimpArgs false
set_option maxRecDepth 100000
namespace Go.Proofs.YtlppgilifnkapaaGreat
open Go Go.RowKit

set_option maxHeartbeats 4000000 in
theorem c_slices_Insert_impl_Ver_impl_Ver (v : Value) (l : List (List AV)) (x : List AV) (i : Nat) (hi : i ≤ l.length) (hl : l.length ≤ 1048576) (hlr : ∀ r ∈ l, r.length = 7) (hx : x.length = 7) :
    FnM Tryz.prog 207 [AV.val v, AV.int i, AV.rows 7 [x]] [Own.row v 94 7 l] [] (AV.rows 7 (l.take i ++ x :: l.drop i)) := by
 refine FnM.intro 95 Tryz.func207 rfl Tryz.ntmps207 rfl (by kernel_rfl) (fun W0 I0 I a w hs => ?_)
 obtain ⟨q, cap, rfl, hcap⟩ := hs.rowForm 0 rfl
 refine wp_seq <| St.region <| hs.sc fun hs => wpList_nil <| then_n <| wp_seq <| St.region <| hs.m fun hs => hs.m fun hs => ?_
 refine hs.o (ok_cutAny un48 ty94 .tt .tt ⟨by omega, by omega⟩ hcap) fun hs => ?_
 refine wpList_nil <| then_n <| wp_seq <| St.region <| hs.m fun hs => hs.o (ok_len un48 .tt) fun hs => ?_
 rw [show (([x] : List (List AV)).length : Int) = 1 from rfl] at hs
 refine hs.s fun hs => wpList_nil <| then_n <| wp_seq <| wp_seq <| St.region <| hs.m fun hs => hs.o (ok_eqi .tt .c) fun hs => wpList_nil <| then_n ?_
 refine hs.cond .tt (fun hb1 => ?_) (fun hb1 => ?_)
 ·exfalso; simp at hb1
  skip
 ·skip
  refine wp_skip <| then_n <| wp_seq <| St.region <| hs.m fun hs => ?_
  refine hs.o ((by first | exact ok_lenM un48 .tt | exact ok_len un48 .tt | exact ok_lenV un48 .tt)) fun hs => ?_
  refine hs.s fun hs => wpList_nil <| then_n <| wp_seq <| wp_seq <| St.region <| hs.m fun hs => hs.m fun hs => hs.o (ok_eqi .tt .tt) fun hs => wpList_nil <| then_n ?_
  refine hs.cond .tt (fun hb2 => ?_) (fun hb2 => ?_)
  ·try simp only [B] at hb2
   refine wp_seq <| St.region <| hs.m fun hs => hs.m fun hs => ?_
   refine hs.append 0 rfl un48 ty94 rfl .tt .tt rfl (by simp only [List.length_singleton]; omega) fun v25 a w hs => ?_
   obtain ⟨I, hs, hf⟩ := hs.freezeRow 0 rfl
   have hs := hs.upd (t := 25) rfl hf; clear hf
   have hs := hs.drop 0
   refine hs.s fun hs => wpList_nil <| then_n <| wp_ret <| then_r ?_
   refine hs.retM rfl (.cons (by first | exact .t rfl | exact .nil rfl) .nil) rfl ?_
   exact congrArg (AV.rows 7) (by rw [show i = l.length by omega]; simp)
  ·try simp only [B] at hb2
   refine wp_skip <| then_n <| wp_seq <| wp_seq <| St.region <| hs.m fun hs => hs.m fun hs => ?_
   refine hs.o (ok_add .tt .tt (fun _ => by omega)) fun hs => ?_
   refine hs.m fun hs => hs.o (ok_capV un48 .tt) fun hs => hs.o (ok_gtr .tt .tt) fun hs => wpList_nil <| then_n ?_
   refine hs.cond .tt (fun hb3 => ?_) (fun hb3 => ?_)
   ·try simp only [B] at hb3
    refine wp_seq <| St.region ?_
    have hne : l ≠ [] := by intro e; rw [e] at hi hb2; simp at hi hb2; omega
    obtain ⟨b, cap2, he, hc1, hc2, hc0, hs⟩ := hs.openRaw 0 rfl hne
    simp only [Value.slice.injEq] at he
    obtain ⟨rfl, _, rfl⟩ := he
    have hA : (l.take i).flatten.length = i * 7 := by rw [flatten_length fun r hr => hlr r (List.mem_of_mem_take hr), List.length_take, Nat.min_eq_left hi]
    have hB : (l.drop i).flatten.length = (l.length - i) * 7 := by rw [flatten_length fun r hr => hlr r (List.mem_of_mem_drop hr), List.length_drop]
    rw [show l.flatten = (l.take i).flatten ++ (l.drop i).flatten by rw [← List.flatten_append, List.take_append_drop], List.map_append] at hs
    have hXl : ([x] : List (List AV)).flatten.length = 7 := by simpa using hx
    have hlen : (l.take i ++ x :: l.drop i).length = l.length + 1 := by simp; omega
    have hrows : ∀ r ∈ l.take i ++ x :: l.drop i, r.length = 7 := fun r hr => (List.mem_append.1 hr).elim (fun h => hlr r (List.mem_of_mem_take h)) fun h => (List.mem_cons.1 h).elim (fun e => e ▸ hx) fun h => hlr r (List.mem_of_mem_drop h)
    have hfl2 : (l.take i ++ x :: l.drop i).flatten.map some = (l.take i).flatten.map some ++ ([x] : List (List AV)).flatten.map some ++ (l.drop i).flatten.map some := by simp
    refine hs.m fun hs => hs.m fun hs => ?_
    refine hs.o (ok_cutH (hi := i) un48 ty94 .tt .tt rfl (by omega) (by omega)) fun hs => ?_
    refine hs.m fun hs => hs.m fun hs => ?_
    refine hs.o (ok_add .tt .tt (fun _ => by omega)) fun hs => ?_
    refine hs.m fun hs => ?_
    refine hs.o (ok_sub .tt .tt (fun _ => by omega)) fun hs => ?_
    refine hs.appendMake (kk' := l.length + 1 - i) (xs := (l.take i).flatten) 0 un48 un3 ty94 rfl (by decide) .tt .tt (by omega) (by omega) rfl (by rw [List.drop_zero, List.append_assoc]; exact take_app _ (List.length_map _)) hA (by omega) (by omega) (by omega) rfl fun {gb cap3 a w} hge hmx hs => ?_
    refine hs.s fun hs => wpList_nil <| then_n <| wp_seq <| St.region <| hs.m fun hs => hs.m fun hs => ?_
    refine hs.o (ok_cutL (lo := i) un48 ty94 .tt .tt rfl (by omega) (by omega)) fun hs => ?_
    refine hs.m fun hs => ?_
    refine hs.copyP 1 un48 ty94 .tt .tt rfl (by simp) (by simp only [List.length_singleton]; omega) (by simp only [List.length_singleton, List.length_append, List.length_map, List.length_replicate, hA]; omega) rfl fun hs => ?_
    refine wpList_nil <| then_n <| wp_seq ?_
    refine hs.drawT 8 (by kernel_rfl) (by kernel_rfl) (by kernel_rfl) ?_
    simp only [List.take_succ_cons, List.take_zero, List.drop_succ_cons, List.drop_zero]
    refine RunT.cons (.of rfl (ok_move .tt)) <| RunT.cons (.of rfl (ok_move .tt)) <| RunT.cons (.of rfl (ok_move .tt)) ?_
    refine RunT.cons (.of rfl (ok_add .tt .tt (fun _ => by omega))) ?_
    refine RunT.cons (.of rfl (ok_cutL (lo := i + 1) un48 ty94 .tt .tt (by omega) (by omega) (by omega))) ?_
    refine RunT.cons (.of rfl (ok_move .tt)) <| RunT.cons (.of rfl (ok_move .tt)) ?_
    refine RunT.cons (.of rfl (ok_cutL (lo := i) un48 ty94 .tt .tt rfl (by omega) (by omega))) ?_
    refine RunT.nil ?_
    intro I a w hs
    refine hs.copyS (xs := (l.drop i).flatten) 1 0 un48 ty94 .tt .tt rfl rfl (by rw [List.append_assoc, drop_app _ (by simp only [List.length_map, hA]; omega)]; exact take_app _ (List.length_map _)) (by rw [hB, Nat.min_eq_left (by omega)]) (by rw [over_len (by simp only [List.length_map, List.length_append, List.length_replicate, hXl, hA]; omega)]; simp only [List.length_append, List.length_map, List.length_replicate, hA, hB]; omega) rfl fun hs => ?_
    rw [over_fill (by simp only [List.length_map, hA]; omega) (by simp only [List.length_map, hXl]; omega) (by simp only [List.length_map, List.length_replicate, hXl, hB]; omega)] at hs
    have hs := hs.closeRaw (l := l.take i ++ x :: l.drop i) (cap := cap3) 1 rfl (by simp only [List.length_append, List.length_map, List.length_drop, List.length_replicate, hA, hB, hXl]; omega) hrows (by omega) (by omega) (by omega) (by rw [hfl2, hlen]; exact take_app _ (by simp only [List.length_append, List.length_map, hA, hB, hXl]; omega))
    rw [show i + (l.length + 1 - i) = (l.take i ++ x :: l.drop i).length by omega] at hs
    obtain ⟨I, hs, hf⟩ := hs.freezeRow 1 rfl
    have hs := hs.upd (t := 9) rfl hf; clear hf
    have hs := hs.drop 0
    refine wpList_nil <| then_n <| wp_seq <| St.region <| hs.m fun hs => hs.s fun hs => wpList_nil <| then_n <| wp_ret <| then_r ?_
    exact hs.retM rfl (.cons (by first | exact .t rfl | exact .nil rfl) .nil) rfl rfl
   ·try simp only [B] at hb3
    refine wp_skip <| then_n <| wp_seq <| St.region ?_
    have hne : l ≠ [] := by intro e; rw [e] at hi hb2; simp at hi hb2; omega
    obtain ⟨b, cap2, he, hc1, hc2, hc0, hs⟩ := hs.openRaw 0 rfl hne
    simp only [Value.slice.injEq] at he
    obtain ⟨rfl, _, rfl⟩ := he
    have hA : (l.take i).flatten.length = i * 7 := by rw [flatten_length fun r hr => hlr r (List.mem_of_mem_take hr), List.length_take, Nat.min_eq_left hi]
    have hB : (l.drop i).flatten.length = (l.length - i) * 7 := by rw [flatten_length fun r hr => hlr r (List.mem_of_mem_drop hr), List.length_drop]
    rw [show l.flatten = (l.take i).flatten ++ (l.drop i).flatten by rw [← List.flatten_append, List.take_append_drop], List.map_append] at hs
    have hXl : ([x] : List (List AV)).flatten.length = 7 := by simpa using hx
    have hlen : (l.take i ++ x :: l.drop i).length = l.length + 1 := by simp; omega
    have hrows : ∀ r ∈ l.take i ++ x :: l.drop i, r.length = 7 := fun r hr => (List.mem_append.1 hr).elim (fun h => hlr r (List.mem_of_mem_take h)) fun h => (List.mem_cons.1 h).elim (fun e => e ▸ hx) fun h => hlr r (List.mem_of_mem_drop h)
    have hfl2 : (l.take i ++ x :: l.drop i).flatten.map some = (l.take i).flatten.map some ++ ([x] : List (List AV)).flatten.map some ++ (l.drop i).flatten.map some := by simp
    refine hs.m fun hs => hs.m fun hs => hs.m fun hs => ?_
    refine hs.o (ok_add .tt .tt (fun _ => by omega)) fun hs => ?_
    refine hs.o (ok_cutH (hi := l.length + 1) un48 ty94 .tt .tt (by omega) (by omega) (by omega)) fun hs => ?_
    refine hs.s fun hs => wpList_nil <| then_n <| wp_seq <| wp_seq <| St.region <| hs.m fun hs => hs.m fun hs => hs.m fun hs => hs.m fun hs => ?_
    refine hs.o (ok_add .tt .tt (fun _ => by omega)) fun hs => ?_
    refine hs.o (ok_cutL (lo := i + 1) un48 ty94 .tt .tt (by omega) (by omega) (by omega)) fun hs => ?_
    refine hs.overlaps (tR := 4) 0 Tryz.func251 rfl (by kernel_rfl) (by kernel_rfl) (by kernel_rfl) un48 ty94 (by decide) .tt (by simp) .tt rfl rfl fun hs => ?_
    refine hs.o (ok_not .tt) fun hs => wpList_nil <| then_n ?_
    refine hs.cond .tt (fun hb4 => ?_) (fun hb4 => ?_)
    ·skip
     refine wp_seq ?_
     refine hs.drawT 8 (by kernel_rfl) (by kernel_rfl) (by kernel_rfl) ?_
     simp only [List.take_succ_cons, List.take_zero, List.drop_succ_cons, List.drop_zero]
     refine RunT.cons (.of rfl (ok_move .tt)) <| RunT.cons (.of rfl (ok_move .tt)) <| RunT.cons (.of rfl (ok_move .tt)) ?_
     refine RunT.cons (.of rfl (ok_add .tt .tt (fun _ => by omega))) ?_
     refine RunT.cons (.of rfl (ok_cutL (lo := i + 1) un48 ty94 .tt .tt (by omega) (by omega) (by omega))) ?_
     refine RunT.cons (.of rfl (ok_move .tt)) <| RunT.cons (.of rfl (ok_move .tt)) ?_
     refine RunT.cons (.of rfl (ok_cutL (lo := i) un48 ty94 .tt .tt rfl (by omega) (by omega))) ?_
     refine RunT.nil ?_
     intro I a w hs
     refine hs.copyS (xs := (l.drop i).flatten) 0 0 un48 ty94 .tt .tt rfl rfl (by rw [List.append_assoc, drop_app _ (by simp only [List.length_map, hA]; omega)]; exact take_app _ (List.length_map _)) (by rw [hB]; congr 1; omega) (by simp only [List.length_append, List.length_map, List.length_replicate, hA, hB]; omega) rfl fun hs => ?_
     refine wpList_nil <| then_n <| wp_seq <| St.region <| hs.m fun hs => hs.m fun hs => ?_
     refine hs.o (ok_cutL (lo := i) un48 ty94 .tt .tt rfl (by omega) (by omega)) fun hs => ?_
     refine hs.m fun hs => ?_
     refine hs.copyP 0 un48 ty94 .tt .tt rfl (by simp) (by simp only [List.length_singleton]; omega) (by rw [over_len (by simp only [List.length_map, List.length_append, List.length_replicate, hA, hB]; omega)]; simp only [List.length_singleton, List.length_append, List.length_map, List.length_replicate, hA, hB]; omega) rfl fun hs => ?_
     rw [over_shift (by simp only [List.length_map, hA]; omega) (by simp only [List.length_map, hXl]; omega) (by simp only [List.length_map, List.length_replicate, hXl]; omega)] at hs
     have hs := hs.closeRaw (l := l.take i ++ x :: l.drop i) (cap := cap) 0 rfl (by simp only [List.length_append, List.length_map, List.length_drop, List.length_replicate, hA, hB, hXl]; omega) hrows (by omega) (by omega) (by omega) (by rw [hfl2, hlen]; exact take_app _ (by simp only [List.length_append, List.length_map, hA, hB, hXl]; omega))
     rw [show l.length + 1 = (l.take i ++ x :: l.drop i).length by omega] at hs
     obtain ⟨I, hs, hf⟩ := hs.freezeRow 0 rfl
     have hs := hs.upd (t := 0) rfl hf; clear hf
     have hs := hs.drop 0
     refine wpList_nil <| then_n <| wp_seq <| St.region <| hs.m fun hs => hs.s fun hs => wpList_nil <| then_n <| wp_ret <| then_r ?_
     exact hs.retM rfl (.cons (by first | exact .t rfl | exact .nil rfl) .nil) rfl rfl
    ·exfalso; simp at hb4
     skip

end Go.Proofs.YtlppgilifnkapaaGreat
