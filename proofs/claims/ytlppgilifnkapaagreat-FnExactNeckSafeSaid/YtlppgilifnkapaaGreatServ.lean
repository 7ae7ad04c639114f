/- Walks: places in a version set; servers. -/
import Derived.Test.YtlppgilifnkapaaGreatChain
set_option linter.unusedVariables false
set_option linter.unusedSimpArgs false
set_option maxRecDepth 100000
namespace Go.Proofs.YtlppgilifnkapaaGreat
open Go Go.RowKit


theorem elt_mem {α : Type} [Inhabited α] {l : List α} {k : Nat} (h : k < l.length) : elt l k ∈ l := by
  unfold elt; rw [List.getD_eq_getElem?_getD, List.getElem?_eq_getElem h]; exact List.getElem_mem _
/-- The first place at which it holds; -1 for none. -/
def idxI {α : Type} (p : α → Bool) (l : List α) : Int := match l.findIdx? p with
  | some k => k
  | none => -1
theorem idx_hit {α : Type} [Inhabited α] {p : α → Bool} {l : List α} {k : Nat} (hk : k < l.length) (h : ∀ i, i < k → p (elt l i) = false) (hp : p (elt l k) = true) : idxI p l = k := by
  have : l.findIdx? p = some k := by
    rw [List.findIdx?_eq_some_iff_getElem]
    refine ⟨hk, by simpa [elt, hk] using hp, fun j hj => ?_⟩
    have := h j hj
    have hjl : j < l.length := by omega
    simpa [elt, hjl] using this
  unfold idxI; rw [this]
theorem idx_none {α : Type} [Inhabited α] {p : α → Bool} {l : List α} {k : Nat} (hk : l.length ≤ k) (h : ∀ i, i < k → p (elt l i) = false) : idxI p l = -1 := by
  have : l.findIdx? p = none := by
    rw [List.findIdx?_eq_none_iff]
    intro x hx
    obtain ⟨i, hi, rfl⟩ := List.getElem_of_mem hx
    have := h i (by omega)
    simpa [elt, hi] using this
  unfold idxI; rw [this]
theorem idxI_ge {α : Type} (p : α → Bool) (l : List α) : -1 ≤ idxI p l := by unfold idxI; split <;> omega
theorem idxI_lt {α : Type} (p : α → Bool) (l : List α) : idxI p l < (l.length : Int) ∨ idxI p l = -1 := by
  unfold idxI
  split
  · rename_i k h
    have := (List.findIdx?_eq_some_iff_getElem.1 h).1
    left; omega
  · right; rfl
def hasB {α : Type} (p : α → Bool) (l : List α) : Bool := decide (0 ≤ idxI p l)
theorem idxI_any {α : Type} [Inhabited α] {p : α → Bool} {l : List α} (h : 0 ≤ idxI p l) : ∃ k, k < l.length ∧ p (elt l k) = true := by
  unfold idxI at h
  split at h
  · rename_i k hk
    obtain ⟨h1, h2, _⟩ := List.findIdx?_eq_some_iff_getElem.1 hk
    exact ⟨k, h1, by simpa [elt, h1] using h2⟩
  · omega
theorem idxI_all {α : Type} [Inhabited α] {p : α → Bool} {l : List α} (h : idxI p l < 0) : ∀ k, k < l.length → p (elt l k) = false := by
  unfold idxI at h
  split at h
  · omega
  · rename_i hn
    rw [List.findIdx?_eq_none_iff] at hn
    intro k hk
    have := hn (elt l k) (by unfold elt; rw [List.getD_eq_getElem?_getD, List.getElem?_eq_getElem hk]; exact List.getElem_mem _)
    exact this
def depIs (d : Dep) (v : Ver) : Bool := decide (v.dep = d)
def placeOf (l : List Ver) (d : Dep) : Int := idxI (depIs d) l
theorem depIs_ints (d : Dep) (v : Ver) : ([v.key, v.stamp.time, v.stamp.site] == [d.key, d.stamp.time, d.stamp.site]) = depIs d v := by
  obtain ⟨k, ⟨t, s⟩⟩ := d
  obtain ⟨vk, ⟨vt, vs⟩, _, _, _, _⟩ := v
  rw [Bool.eq_iff_iff]
  simp [depIs, Ver.dep, Bool.and_eq_true]
def idxHyp (n : Nat) : Prop := n ≤ 9223372036854775807

theorem c_slices_IndexFunc_impl_Ver_impl_Ver (l : List (Ver)) (p : (Ver) → Bool) (fv : AV) (hf : ∀ x : Ver, x ∈ l → FnV Tryz.prog fv [x.av] (AV.bool (p x))) :
    Fn Tryz.prog 204 [versAV l, fv] (AV.int (idxI p l)) := by
 refine Fn.intro 19 Tryz.func204 rfl Tryz.ntmps204 rfl (by kernel_rfl) (fun W I a hs => ?_)
 have hle := hs.lenleM (t := 0) rfl
 refine wp_seq <| St.region <| hs.sc fun hs => wpList_nil <| then_n <| wp_seq <| wp_seq <| St.region <| hs.m fun hs => ?_
 refine hs.o ((by first | exact ok_lenM un48 .tt | exact ok_len un48 .tt | exact ok_lenV un48 .tt)) fun hs => ?_
 refine hs.mc fun hs => wpList_nil <| then_n <| wp_block ?_
 refine St.loopS (σ := Nat) (4 :: 5 :: 8 :: 9 :: 10 :: 11 :: 12 :: 13 :: 14 :: 15 :: 16 :: 17 :: 18 :: []) ⟨fun k => [(8, AV.int k)], fun k => [], fun k => k ≤ l.length ∧ ∀ i, i < k → p (elt l i) = false⟩ (fun k => l.length - k) 0 hs rfl ?ok1 ?env1 ?round1
 case ok1 => exact ⟨Nat.zero_le _, fun i hi => by omega⟩
 case env1 => exact (Env.le_consE rfl (by rfl) Env.le_nil)
 case round1 =>
  rintro k I a w hok hs
  obtain ⟨hk, hall⟩ := hok
  refine wp_seq <| St.region <| hs.o (ok_lss .tt .tt) fun hs => wpList_nil <| then_n <| wp_seq ?_
  refine hs.cond .tt (fun hb1 => ?_) (fun hb1 => ?_)
  ·try simp only [B] at hb1
   refine wp_skip <| then_n <| wp_seq <| wp_block <| wp_seq <| St.region <| hs.m fun hs => hs.s fun hs => wpList_nil <| then_n <| wp_seq <| St.region <| hs.m fun hs => hs.m fun hs => hs.m fun hs => ?_
   refine hs.o ((by first | exact ok_idxN un48 ty94 .tt .tt (fun _ => by exact hb1) | exact ok_idxM un48 ty94 .tt .tt (fun _ => by exact hb1) | exact ok_idx un48 ty94 .tt .tt (fun _ => by exact hb1))) fun hs => ?_
   refine hs.o ((by first | exact ok_loadA ty94 .tt rfl | exact ok_loadS ty94 .tt rfl)) fun hs => ?_
   refine hs.o (ok_callV (hf _ (elt_mem hb1)) .tt (args_cons .tt args_nil)) fun hs => wpList_nil <| then_n ?_
   refine hs.cond .tt (fun hb2 => ?_) (fun hb2 => ?_)
   ·skip
    refine wp_seq <| St.region <| hs.m fun hs => hs.s fun hs => wpList_nil <| then_n <| wp_ret <| block_r <| then_r <| then_r <| block_r <| then_r <| hs.ret rfl (.cons (.t rfl) ResL.nil) ?_
    exact ret_int (idx_hit hb1 hall hb2).symm
   ·skip
    refine wp_skip <| block_n <| then_n <| St.region ?_
    refine hs.o (ok_add .tt .c (fun _ => by omega)) fun hs => ?_
    refine hs.m fun hs => wpList_nil <| then_n ?_
    refine hs.again (k + 1) ?mu1 ?ok1001 (by rfl) ?env1001 (by repeat (first | exact Env.le_rfl | refine Env.le_push rfl ?_))
    case mu1 => omega
    case ok1001 => exact ⟨hb1, fun i h1 => by rcases Nat.lt_succ_iff_lt_or_eq.1 h1 with h | h; exact hall i h; rw [h]; exact hb2⟩
    case env1001 => exact (Env.le_consE rfl (by first | rfl | (congr 1; done)) Env.le_nil)
  ·try simp only [B] at hb1
   refine wp_exit <| then_x <| then_x <| block_hit <| then_n <| wp_seq <| St.region <| hs.sc fun hs => wpList_nil <| then_n <| wp_ret <| hs.ret rfl (.cons (.t rfl) ResL.nil) ?_
   exact ret_int (idx_none (by omega) hall).symm

theorem c_slices_IndexFunc_impl_Dep_impl_Dep (l : List (Dep)) (p : (Dep) → Bool) (fv : AV) (hf : ∀ x : Dep, x ∈ l → FnV Tryz.prog fv [x.av] (AV.bool (p x))) :
    Fn Tryz.prog 253 [depsAV l, fv] (AV.int (idxI p l)) := by
 refine Fn.intro 19 Tryz.func253 rfl Tryz.ntmps253 rfl (by kernel_rfl) (fun W I a hs => ?_)
 have hle := hs.lenleM (t := 0) rfl
 refine wp_seq <| St.region <| hs.sc fun hs => wpList_nil <| then_n <| wp_seq <| wp_seq <| St.region <| hs.m fun hs => ?_
 refine hs.o ((by first | exact ok_lenM un65 .tt | exact ok_len un65 .tt | exact ok_lenV un65 .tt)) fun hs => ?_
 refine hs.mc fun hs => wpList_nil <| then_n <| wp_block ?_
 refine St.loopS (σ := Nat) (4 :: 5 :: 8 :: 9 :: 10 :: 11 :: 12 :: 13 :: 14 :: 15 :: 16 :: 17 :: 18 :: []) ⟨fun k => [(8, AV.int k)], fun k => [], fun k => k ≤ l.length ∧ ∀ i, i < k → p (elt l i) = false⟩ (fun k => l.length - k) 0 hs rfl ?ok1 ?env1 ?round1
 case ok1 => exact ⟨Nat.zero_le _, fun i hi => by omega⟩
 case env1 => exact (Env.le_consE rfl (by rfl) Env.le_nil)
 case round1 =>
  rintro k I a w hok hs
  obtain ⟨hk, hall⟩ := hok
  refine wp_seq <| St.region <| hs.o (ok_lss .tt .tt) fun hs => wpList_nil <| then_n <| wp_seq ?_
  refine hs.cond .tt (fun hb1 => ?_) (fun hb1 => ?_)
  ·try simp only [B] at hb1
   refine wp_skip <| then_n <| wp_seq <| wp_block <| wp_seq <| St.region <| hs.m fun hs => hs.s fun hs => wpList_nil <| then_n <| wp_seq <| St.region <| hs.m fun hs => hs.m fun hs => hs.m fun hs => ?_
   refine hs.o ((by first | exact ok_idxN un65 ty74 .tt .tt (fun _ => by exact hb1) | exact ok_idxM un65 ty74 .tt .tt (fun _ => by exact hb1) | exact ok_idx un65 ty74 .tt .tt (fun _ => by exact hb1))) fun hs => ?_
   refine hs.o ((by first | exact ok_loadA ty74 .tt rfl | exact ok_loadS ty74 .tt rfl)) fun hs => ?_
   refine hs.o (ok_callV (hf _ (elt_mem hb1)) .tt (args_cons .tt args_nil)) fun hs => wpList_nil <| then_n ?_
   refine hs.cond .tt (fun hb2 => ?_) (fun hb2 => ?_)
   ·skip
    refine wp_seq <| St.region <| hs.m fun hs => hs.s fun hs => wpList_nil <| then_n <| wp_ret <| block_r <| then_r <| then_r <| block_r <| then_r <| hs.ret rfl (.cons (.t rfl) ResL.nil) ?_
    exact ret_int (idx_hit hb1 hall hb2).symm
   ·skip
    refine wp_skip <| block_n <| then_n <| St.region ?_
    refine hs.o (ok_add .tt .c (fun _ => by omega)) fun hs => ?_
    refine hs.m fun hs => wpList_nil <| then_n ?_
    refine hs.again (k + 1) ?mu1 ?ok1001 (by rfl) ?env1001 (by repeat (first | exact Env.le_rfl | refine Env.le_push rfl ?_))
    case mu1 => omega
    case ok1001 => exact ⟨hb1, fun i h1 => by rcases Nat.lt_succ_iff_lt_or_eq.1 h1 with h | h; exact hall i h; rw [h]; exact hb2⟩
    case env1001 => exact (Env.le_consE rfl (by first | rfl | (congr 1; done)) Env.le_nil)
  ·try simp only [B] at hb1
   refine wp_exit <| then_x <| then_x <| block_hit <| then_n <| wp_seq <| St.region <| hs.sc fun hs => wpList_nil <| then_n <| wp_ret <| hs.ret rfl (.cons (.t rfl) ResL.nil) ?_
   exact ret_int (idx_none (by omega) hall).symm

theorem c_slices_IndexFunc_impl_Word_impl_Word (l : List (Word)) (p : (Word) → Bool) (fv : AV) (hf : ∀ x : Word, x ∈ l → FnV Tryz.prog fv [x.av] (AV.bool (p x))) :
    Fn Tryz.prog 190 [wordsAV l, fv] (AV.int (idxI p l)) := by
 refine Fn.intro 19 Tryz.func190 rfl Tryz.ntmps190 rfl (by kernel_rfl) (fun W I a hs => ?_)
 have hle := hs.lenleM (t := 0) rfl
 refine wp_seq <| St.region <| hs.sc fun hs => wpList_nil <| then_n <| wp_seq <| wp_seq <| St.region <| hs.m fun hs => ?_
 refine hs.o ((by first | exact ok_lenM un31 .tt | exact ok_len un31 .tt | exact ok_lenV un31 .tt)) fun hs => ?_
 refine hs.mc fun hs => wpList_nil <| then_n <| wp_block ?_
 refine St.loopS (σ := Nat) (4 :: 5 :: 8 :: 9 :: 10 :: 11 :: 12 :: 13 :: 14 :: 15 :: 16 :: 17 :: 18 :: []) ⟨fun k => [(8, AV.int k)], fun k => [], fun k => k ≤ l.length ∧ ∀ i, i < k → p (elt l i) = false⟩ (fun k => l.length - k) 0 hs rfl ?ok1 ?env1 ?round1
 case ok1 => exact ⟨Nat.zero_le _, fun i hi => by omega⟩
 case env1 => exact (Env.le_consE rfl (by rfl) Env.le_nil)
 case round1 =>
  rintro k I a w hok hs
  obtain ⟨hk, hall⟩ := hok
  refine wp_seq <| St.region <| hs.o (ok_lss .tt .tt) fun hs => wpList_nil <| then_n <| wp_seq ?_
  refine hs.cond .tt (fun hb1 => ?_) (fun hb1 => ?_)
  ·try simp only [B] at hb1
   refine wp_skip <| then_n <| wp_seq <| wp_block <| wp_seq <| St.region <| hs.m fun hs => hs.s fun hs => wpList_nil <| then_n <| wp_seq <| St.region <| hs.m fun hs => hs.m fun hs => hs.m fun hs => ?_
   refine hs.o ((by first | exact ok_idxN un31 ty137 .tt .tt (fun _ => by exact hb1) | exact ok_idxM un31 ty137 .tt .tt (fun _ => by exact hb1) | exact ok_idx un31 ty137 .tt .tt (fun _ => by exact hb1))) fun hs => ?_
   refine hs.o ((by first | exact ok_loadA ty137 .tt rfl | exact ok_loadS ty137 .tt rfl)) fun hs => ?_
   refine hs.o (ok_callV (hf _ (elt_mem hb1)) .tt (args_cons .tt args_nil)) fun hs => wpList_nil <| then_n ?_
   refine hs.cond .tt (fun hb2 => ?_) (fun hb2 => ?_)
   ·skip
    refine wp_seq <| St.region <| hs.m fun hs => hs.s fun hs => wpList_nil <| then_n <| wp_ret <| block_r <| then_r <| then_r <| block_r <| then_r <| hs.ret rfl (.cons (.t rfl) ResL.nil) ?_
    exact ret_int (idx_hit hb1 hall hb2).symm
   ·skip
    refine wp_skip <| block_n <| then_n <| St.region ?_
    refine hs.o (ok_add .tt .c (fun _ => by omega)) fun hs => ?_
    refine hs.m fun hs => wpList_nil <| then_n ?_
    refine hs.again (k + 1) ?mu1 ?ok1001 (by rfl) ?env1001 (by repeat (first | exact Env.le_rfl | refine Env.le_push rfl ?_))
    case mu1 => omega
    case ok1001 => exact ⟨hb1, fun i h1 => by rcases Nat.lt_succ_iff_lt_or_eq.1 h1 with h | h; exact hall i h; rw [h]; exact hb2⟩
    case env1001 => exact (Env.le_consE rfl (by first | rfl | (congr 1; done)) Env.le_nil)
  ·try simp only [B] at hb1
   refine wp_exit <| then_x <| then_x <| block_hit <| then_n <| wp_seq <| St.region <| hs.sc fun hs => wpList_nil <| then_n <| wp_ret <| hs.ret rfl (.cons (.t rfl) ResL.nil) ?_
   exact ret_int (idx_none (by omega) hall).symm

theorem c_slices_IndexFunc_impl_Call_impl_Call (l : List (Call)) (p : (Call) → Bool) (fv : AV) (hf : ∀ x : Call, x ∈ l → FnV Tryz.prog fv [x.av] (AV.bool (p x))) :
    Fn Tryz.prog 47 [callsAV l, fv] (AV.int (idxI p l)) := by
 refine Fn.intro 19 Tryz.func47 rfl Tryz.ntmps47 rfl (by kernel_rfl) (fun W I a hs => ?_)
 have hle := hs.lenleM (t := 0) rfl
 refine wp_seq <| St.region <| hs.sc fun hs => wpList_nil <| then_n <| wp_seq <| wp_seq <| St.region <| hs.m fun hs => ?_
 refine hs.o ((by first | exact ok_lenM un32 .tt | exact ok_len un32 .tt | exact ok_lenV un32 .tt)) fun hs => ?_
 refine hs.mc fun hs => wpList_nil <| then_n <| wp_block ?_
 refine St.loopS (σ := Nat) (4 :: 5 :: 8 :: 9 :: 10 :: 11 :: 12 :: 13 :: 14 :: 15 :: 16 :: 17 :: 18 :: []) ⟨fun k => [(8, AV.int k)], fun k => [], fun k => k ≤ l.length ∧ ∀ i, i < k → p (elt l i) = false⟩ (fun k => l.length - k) 0 hs rfl ?ok1 ?env1 ?round1
 case ok1 => exact ⟨Nat.zero_le _, fun i hi => by omega⟩
 case env1 => exact (Env.le_consE rfl (by rfl) Env.le_nil)
 case round1 =>
  rintro k I a w hok hs
  obtain ⟨hk, hall⟩ := hok
  refine wp_seq <| St.region <| hs.o (ok_lss .tt .tt) fun hs => wpList_nil <| then_n <| wp_seq ?_
  refine hs.cond .tt (fun hb1 => ?_) (fun hb1 => ?_)
  ·try simp only [B] at hb1
   refine wp_skip <| then_n <| wp_seq <| wp_block <| wp_seq <| St.region <| hs.m fun hs => hs.s fun hs => wpList_nil <| then_n <| wp_seq <| St.region <| hs.m fun hs => hs.m fun hs => hs.m fun hs => ?_
   refine hs.o ((by first | exact ok_idxN un32 ty70 .tt .tt (fun _ => by exact hb1) | exact ok_idxM un32 ty70 .tt .tt (fun _ => by exact hb1) | exact ok_idx un32 ty70 .tt .tt (fun _ => by exact hb1))) fun hs => ?_
   refine hs.o ((by first | exact ok_loadA ty70 .tt rfl | exact ok_loadS ty70 .tt rfl)) fun hs => ?_
   refine hs.o (ok_callV (hf _ (elt_mem hb1)) .tt (args_cons .tt args_nil)) fun hs => wpList_nil <| then_n ?_
   refine hs.cond .tt (fun hb2 => ?_) (fun hb2 => ?_)
   ·skip
    refine wp_seq <| St.region <| hs.m fun hs => hs.s fun hs => wpList_nil <| then_n <| wp_ret <| block_r <| then_r <| then_r <| block_r <| then_r <| hs.ret rfl (.cons (.t rfl) ResL.nil) ?_
    exact ret_int (idx_hit hb1 hall hb2).symm
   ·skip
    refine wp_skip <| block_n <| then_n <| St.region ?_
    refine hs.o (ok_add .tt .c (fun _ => by omega)) fun hs => ?_
    refine hs.m fun hs => wpList_nil <| then_n ?_
    refine hs.again (k + 1) ?mu1 ?ok1001 (by rfl) ?env1001 (by repeat (first | exact Env.le_rfl | refine Env.le_push rfl ?_))
    case mu1 => omega
    case ok1001 => exact ⟨hb1, fun i h1 => by rcases Nat.lt_succ_iff_lt_or_eq.1 h1 with h | h; exact hall i h; rw [h]; exact hb2⟩
    case env1001 => exact (Env.le_consE rfl (by first | rfl | (congr 1; done)) Env.le_nil)
  ·try simp only [B] at hb1
   refine wp_exit <| then_x <| then_x <| block_hit <| then_n <| wp_seq <| St.region <| hs.sc fun hs => wpList_nil <| then_n <| wp_ret <| hs.ret rfl (.cons (.t rfl) ResL.nil) ?_
   exact ret_int (idx_none (by omega) hall).symm

theorem c_slices_IndexFunc_impl_Answer_impl_Answer (l : List (Answer)) (p : (Answer) → Bool) (fv : AV) (hf : ∀ x : Answer, x ∈ l → FnV Tryz.prog fv [x.av] (AV.bool (p x))) :
    Fn Tryz.prog 197 [answersAV l, fv] (AV.int (idxI p l)) := by
 refine Fn.intro 19 Tryz.func197 rfl Tryz.ntmps197 rfl (by kernel_rfl) (fun W I a hs => ?_)
 have hle := hs.lenleM (t := 0) rfl
 refine wp_seq <| St.region <| hs.sc fun hs => wpList_nil <| then_n <| wp_seq <| wp_seq <| St.region <| hs.m fun hs => ?_
 refine hs.o ((by first | exact ok_lenM un68 .tt | exact ok_len un68 .tt | exact ok_lenV un68 .tt)) fun hs => ?_
 refine hs.mc fun hs => wpList_nil <| then_n <| wp_block ?_
 refine St.loopS (σ := Nat) (4 :: 5 :: 8 :: 9 :: 10 :: 11 :: 12 :: 13 :: 14 :: 15 :: 16 :: 17 :: 18 :: []) ⟨fun k => [(8, AV.int k)], fun k => [], fun k => k ≤ l.length ∧ ∀ i, i < k → p (elt l i) = false⟩ (fun k => l.length - k) 0 hs rfl ?ok1 ?env1 ?round1
 case ok1 => exact ⟨Nat.zero_le _, fun i hi => by omega⟩
 case env1 => exact (Env.le_consE rfl (by rfl) Env.le_nil)
 case round1 =>
  rintro k I a w hok hs
  obtain ⟨hk, hall⟩ := hok
  refine wp_seq <| St.region <| hs.o (ok_lss .tt .tt) fun hs => wpList_nil <| then_n <| wp_seq ?_
  refine hs.cond .tt (fun hb1 => ?_) (fun hb1 => ?_)
  ·try simp only [B] at hb1
   refine wp_skip <| then_n <| wp_seq <| wp_block <| wp_seq <| St.region <| hs.m fun hs => hs.s fun hs => wpList_nil <| then_n <| wp_seq <| St.region <| hs.m fun hs => hs.m fun hs => hs.m fun hs => ?_
   refine hs.o ((by first | exact ok_idxN un68 ty140 .tt .tt (fun _ => by exact hb1) | exact ok_idxM un68 ty140 .tt .tt (fun _ => by exact hb1) | exact ok_idx un68 ty140 .tt .tt (fun _ => by exact hb1))) fun hs => ?_
   refine hs.o ((by first | exact ok_loadA ty140 .tt rfl | exact ok_loadS ty140 .tt rfl)) fun hs => ?_
   refine hs.o (ok_callV (hf _ (elt_mem hb1)) .tt (args_cons .tt args_nil)) fun hs => wpList_nil <| then_n ?_
   refine hs.cond .tt (fun hb2 => ?_) (fun hb2 => ?_)
   ·skip
    refine wp_seq <| St.region <| hs.m fun hs => hs.s fun hs => wpList_nil <| then_n <| wp_ret <| block_r <| then_r <| then_r <| block_r <| then_r <| hs.ret rfl (.cons (.t rfl) ResL.nil) ?_
    exact ret_int (idx_hit hb1 hall hb2).symm
   ·skip
    refine wp_skip <| block_n <| then_n <| St.region ?_
    refine hs.o (ok_add .tt .c (fun _ => by omega)) fun hs => ?_
    refine hs.m fun hs => wpList_nil <| then_n ?_
    refine hs.again (k + 1) ?mu1 ?ok1001 (by rfl) ?env1001 (by repeat (first | exact Env.le_rfl | refine Env.le_push rfl ?_))
    case mu1 => omega
    case ok1001 => exact ⟨hb1, fun i h1 => by rcases Nat.lt_succ_iff_lt_or_eq.1 h1 with h | h; exact hall i h; rw [h]; exact hb2⟩
    case env1001 => exact (Env.le_consE rfl (by first | rfl | (congr 1; done)) Env.le_nil)
  ·try simp only [B] at hb1
   refine wp_exit <| then_x <| then_x <| block_hit <| then_n <| wp_seq <| St.region <| hs.sc fun hs => wpList_nil <| then_n <| wp_ret <| hs.ret rfl (.cons (.t rfl) ResL.nil) ?_
   exact ret_int (idx_none (by omega) hall).symm

theorem c_slices_IndexFunc_impl_Dep_impl_Dep_2 (l : List (List Dep)) (p : (List Dep) → Bool) (fv : AV) (hf : ∀ x : List Dep, x ∈ l → FnV Tryz.prog fv [depsAV x] (AV.bool (p x))) :
    Fn Tryz.prog 194 [seenAV l, fv] (AV.int (idxI p l)) := by
 refine Fn.intro 19 Tryz.func194 rfl Tryz.ntmps194 rfl (by kernel_rfl) (fun W I a hs => ?_)
 have hle := hs.lenleM (t := 0) rfl
 refine wp_seq <| St.region <| hs.sc fun hs => wpList_nil <| then_n <| wp_seq <| wp_seq <| St.region <| hs.m fun hs => ?_
 refine hs.o ((by first | exact ok_lenM un33 .tt | exact ok_len un33 .tt | exact ok_lenV un33 .tt)) fun hs => ?_
 refine hs.mc fun hs => wpList_nil <| then_n <| wp_block ?_
 refine St.loopS (σ := Nat) (4 :: 5 :: 8 :: 9 :: 10 :: 11 :: 12 :: 13 :: 14 :: 15 :: 16 :: 17 :: 18 :: []) ⟨fun k => [(8, AV.int k)], fun k => [], fun k => k ≤ l.length ∧ ∀ i, i < k → p (elt l i) = false⟩ (fun k => l.length - k) 0 hs rfl ?ok1 ?env1 ?round1
 case ok1 => exact ⟨Nat.zero_le _, fun i hi => by omega⟩
 case env1 => exact (Env.le_consE rfl (by rfl) Env.le_nil)
 case round1 =>
  rintro k I a w hok hs
  obtain ⟨hk, hall⟩ := hok
  refine wp_seq <| St.region <| hs.o (ok_lss .tt .tt) fun hs => wpList_nil <| then_n <| wp_seq ?_
  refine hs.cond .tt (fun hb1 => ?_) (fun hb1 => ?_)
  ·try simp only [B] at hb1
   refine wp_skip <| then_n <| wp_seq <| wp_block <| wp_seq <| St.region <| hs.m fun hs => hs.s fun hs => wpList_nil <| then_n <| wp_seq <| St.region <| hs.m fun hs => hs.m fun hs => hs.m fun hs => ?_
   refine hs.o ((by first | exact ok_idxN un33 ty65 .tt .tt (fun _ => by exact hb1) | exact ok_idxM un33 ty65 .tt .tt (fun _ => by exact hb1) | exact ok_idx un33 ty65 .tt .tt (fun _ => by exact hb1))) fun hs => ?_
   refine hs.o (ok_load1 ty65 .tt) fun hs => ?_
   refine hs.o (ok_callV (hf _ (elt_mem hb1)) .tt (args_cons .r args_nil)) fun hs => ?_
   refine wpList_nil <| then_n ?_
   refine hs.cond .tt (fun hb2 => ?_) (fun hb2 => ?_)
   ·skip
    refine wp_seq <| St.region <| hs.m fun hs => hs.s fun hs => wpList_nil <| then_n <| wp_ret <| block_r <| then_r <| then_r <| block_r <| then_r <| hs.ret rfl (.cons (.t rfl) ResL.nil) ?_
    exact ret_int (idx_hit hb1 hall hb2).symm
   ·skip
    refine wp_skip <| block_n <| then_n <| St.region ?_
    refine hs.o (ok_add .tt .c (fun _ => by omega)) fun hs => ?_
    refine hs.m fun hs => wpList_nil <| then_n ?_
    refine hs.again (k + 1) ?mu1 ?ok1001 (by rfl) ?env1001 (by repeat (first | exact Env.le_rfl | refine Env.le_push rfl ?_))
    case mu1 => omega
    case ok1001 => exact ⟨hb1, fun i h1 => by rcases Nat.lt_succ_iff_lt_or_eq.1 h1 with h | h; exact hall i h; rw [h]; exact hb2⟩
    case env1001 => exact (Env.le_consE rfl (by first | rfl | (congr 1; done)) Env.le_nil)
  ·try simp only [B] at hb1
   refine wp_exit <| then_x <| then_x <| block_hit <| then_n <| wp_seq <| St.region <| hs.sc fun hs => wpList_nil <| then_n <| wp_ret <| hs.ret rfl (.cons (.t rfl) ResL.nil) ?_
   exact ret_int (idx_none (by omega) hall).symm

theorem c_slices_IndexFunc_impl_Slot_impl_Slot (l : List (Slot)) (p : (Slot) → Bool) (fv : AV) (hf : ∀ x : Slot, x ∈ l → FnV Tryz.prog fv [x.av] (AV.bool (p x))) :
    Fn Tryz.prog 130 [slotsAV l, fv] (AV.int (idxI p l)) := by
 refine Fn.intro 19 Tryz.func130 rfl Tryz.ntmps130 rfl (by kernel_rfl) (fun W I a hs => ?_)
 have hle := hs.lenleM (t := 0) rfl
 refine wp_seq <| St.region <| hs.sc fun hs => wpList_nil <| then_n <| wp_seq <| wp_seq <| St.region <| hs.m fun hs => ?_
 refine hs.o ((by first | exact ok_lenM un87 .tt | exact ok_len un87 .tt | exact ok_lenV un87 .tt)) fun hs => ?_
 refine hs.mc fun hs => wpList_nil <| then_n <| wp_block ?_
 refine St.loopS (σ := Nat) (4 :: 5 :: 8 :: 9 :: 10 :: 11 :: 12 :: 13 :: 14 :: 15 :: 16 :: 17 :: 18 :: []) ⟨fun k => [(8, AV.int k)], fun k => [], fun k => k ≤ l.length ∧ ∀ i, i < k → p (elt l i) = false⟩ (fun k => l.length - k) 0 hs rfl ?ok1 ?env1 ?round1
 case ok1 => exact ⟨Nat.zero_le _, fun i hi => by omega⟩
 case env1 => exact (Env.le_consE rfl (by rfl) Env.le_nil)
 case round1 =>
  rintro k I a w hok hs
  obtain ⟨hk, hall⟩ := hok
  refine wp_seq <| St.region <| hs.o (ok_lss .tt .tt) fun hs => wpList_nil <| then_n <| wp_seq ?_
  refine hs.cond .tt (fun hb1 => ?_) (fun hb1 => ?_)
  ·try simp only [B] at hb1
   refine wp_skip <| then_n <| wp_seq <| wp_block <| wp_seq <| St.region <| hs.m fun hs => hs.s fun hs => wpList_nil <| then_n <| wp_seq <| St.region <| hs.m fun hs => hs.m fun hs => hs.m fun hs => ?_
   refine hs.o ((by first | exact ok_idxN un87 ty91 .tt .tt (fun _ => by exact hb1) | exact ok_idxM un87 ty91 .tt .tt (fun _ => by exact hb1) | exact ok_idx un87 ty91 .tt .tt (fun _ => by exact hb1))) fun hs => ?_
   refine hs.o ((by first | exact ok_loadA ty91 .tt rfl | exact ok_loadS ty91 .tt rfl)) fun hs => ?_
   refine hs.o (ok_callV (hf _ (elt_mem hb1)) .tt (args_cons .tt args_nil)) fun hs => wpList_nil <| then_n ?_
   refine hs.cond .tt (fun hb2 => ?_) (fun hb2 => ?_)
   ·skip
    refine wp_seq <| St.region <| hs.m fun hs => hs.s fun hs => wpList_nil <| then_n <| wp_ret <| block_r <| then_r <| then_r <| block_r <| then_r <| hs.ret rfl (.cons (.t rfl) ResL.nil) ?_
    exact ret_int (idx_hit hb1 hall hb2).symm
   ·skip
    refine wp_skip <| block_n <| then_n <| St.region ?_
    refine hs.o (ok_add .tt .c (fun _ => by omega)) fun hs => ?_
    refine hs.m fun hs => wpList_nil <| then_n ?_
    refine hs.again (k + 1) ?mu1 ?ok1001 (by rfl) ?env1001 (by repeat (first | exact Env.le_rfl | refine Env.le_push rfl ?_))
    case mu1 => omega
    case ok1001 => exact ⟨hb1, fun i h1 => by rcases Nat.lt_succ_iff_lt_or_eq.1 h1 with h | h; exact hall i h; rw [h]; exact hb2⟩
    case env1001 => exact (Env.le_consE rfl (by first | rfl | (congr 1; done)) Env.le_nil)
  ·try simp only [B] at hb1
   refine wp_exit <| then_x <| then_x <| block_hit <| then_n <| wp_seq <| St.region <| hs.sc fun hs => wpList_nil <| then_n <| wp_ret <| hs.ret rfl (.cons (.t rfl) ResL.nil) ?_
   exact ret_int (idx_none (by omega) hall).symm

theorem c_slices_ContainsFunc_impl_Dep_impl_Dep (l : List (Dep)) (p : (Dep) → Bool) (fv : AV) (hf : ∀ x : Dep, x ∈ l → FnV Tryz.prog fv [x.av] (AV.bool (p x))) :
    Fn Tryz.prog 208 [depsAV l, fv] (AV.bool (hasB p l)) := by
 refine Fn.intro 9 Tryz.func208 rfl Tryz.ntmps208 rfl (by kernel_rfl) (fun W I a hs => ?_)
 refine wp_seq <| St.region <| hs.sc fun hs => wpList_nil <| then_n <| wp_seq <| St.region <| hs.m fun hs => hs.m fun hs => ?_
 refine hs.o (ok_call (c_slices_IndexFunc_impl_Dep_impl_Dep _ _ _ hf) (args_cons .r (args_cons .tt args_nil))) fun hs => ?_
 refine hs.o (ok_geq .tt .c) fun hs => hs.s fun hs => wpList_nil <| then_n <| wp_ret <| hs.ret rfl (.cons (.t rfl) ResL.nil) ?_
 rfl

theorem c_slices_ContainsFunc_impl_Word_impl_Word (l : List (Word)) (p : (Word) → Bool) (fv : AV) (hf : ∀ x : Word, x ∈ l → FnV Tryz.prog fv [x.av] (AV.bool (p x))) :
    Fn Tryz.prog 110 [wordsAV l, fv] (AV.bool (hasB p l)) := by
 refine Fn.intro 9 Tryz.func110 rfl Tryz.ntmps110 rfl (by kernel_rfl) (fun W I a hs => ?_)
 refine wp_seq <| St.region <| hs.sc fun hs => wpList_nil <| then_n <| wp_seq <| St.region <| hs.m fun hs => hs.m fun hs => ?_
 refine hs.o (ok_call (c_slices_IndexFunc_impl_Word_impl_Word _ _ _ hf) (args_cons .r (args_cons .tt args_nil))) fun hs => ?_
 refine hs.o (ok_geq .tt .c) fun hs => hs.s fun hs => wpList_nil <| then_n <| wp_ret <| hs.ret rfl (.cons (.t rfl) ResL.nil) ?_
 rfl

theorem c_slices_ContainsFunc_impl_Answer_impl_Answer (l : List (Answer)) (p : (Answer) → Bool) (fv : AV) (hf : ∀ x : Answer, x ∈ l → FnV Tryz.prog fv [x.av] (AV.bool (p x))) :
    Fn Tryz.prog 118 [answersAV l, fv] (AV.bool (hasB p l)) := by
 refine Fn.intro 9 Tryz.func118 rfl Tryz.ntmps118 rfl (by kernel_rfl) (fun W I a hs => ?_)
 refine wp_seq <| St.region <| hs.sc fun hs => wpList_nil <| then_n <| wp_seq <| St.region <| hs.m fun hs => hs.m fun hs => ?_
 refine hs.o (ok_call (c_slices_IndexFunc_impl_Answer_impl_Answer _ _ _ hf) (args_cons .r (args_cons .tt args_nil))) fun hs => ?_
 refine hs.o (ok_geq .tt .c) fun hs => hs.s fun hs => wpList_nil <| then_n <| wp_ret <| hs.ret rfl (.cons (.t rfl) ResL.nil) ?_
 rfl

theorem c_slices_ContainsFunc_impl_Dep_impl_Dep_2 (l : List (List Dep)) (p : (List Dep) → Bool) (fv : AV) (hf : ∀ x : List Dep, x ∈ l → FnV Tryz.prog fv [depsAV x] (AV.bool (p x))) :
    Fn Tryz.prog 113 [seenAV l, fv] (AV.bool (hasB p l)) := by
 refine Fn.intro 9 Tryz.func113 rfl Tryz.ntmps113 rfl (by kernel_rfl) (fun W I a hs => ?_)
 refine wp_seq <| St.region <| hs.sc fun hs => wpList_nil <| then_n <| wp_seq <| St.region <| hs.m fun hs => hs.m fun hs => ?_
 refine hs.o (ok_call (c_slices_IndexFunc_impl_Dep_impl_Dep_2 _ _ _ hf) (args_cons .r (args_cons .tt args_nil))) fun hs => ?_
 refine hs.o (ok_geq .tt .c) fun hs => hs.s fun hs => wpList_nil <| then_n <| wp_ret <| hs.ret rfl (.cons (.t rfl) ResL.nil) ?_
 rfl

theorem c_slices_ContainsFunc_impl_Slot_impl_Slot (l : List (Slot)) (p : (Slot) → Bool) (fv : AV) (hf : ∀ x : Slot, x ∈ l → FnV Tryz.prog fv [x.av] (AV.bool (p x))) :
    Fn Tryz.prog 56 [slotsAV l, fv] (AV.bool (hasB p l)) := by
 refine Fn.intro 9 Tryz.func56 rfl Tryz.ntmps56 rfl (by kernel_rfl) (fun W I a hs => ?_)
 refine wp_seq <| St.region <| hs.sc fun hs => wpList_nil <| then_n <| wp_seq <| St.region <| hs.m fun hs => hs.m fun hs => ?_
 refine hs.o (ok_call (c_slices_IndexFunc_impl_Slot_impl_Slot _ _ _ hf) (args_cons .r (args_cons .tt args_nil))) fun hs => ?_
 refine hs.o (ok_geq .tt .c) fun hs => hs.s fun hs => wpList_nil <| then_n <| wp_ret <| hs.ret rfl (.cons (.t rfl) ResL.nil) ?_
 rfl

theorem c_slices_ContainsFunc_impl_Ver_impl_Ver (l : List (Ver)) (p : (Ver) → Bool) (fv : AV) (hf : ∀ x : Ver, x ∈ l → FnV Tryz.prog fv [x.av] (AV.bool (p x))) :
    Fn Tryz.prog 140 [versAV l, fv] (AV.bool (hasB p l)) := by
 refine Fn.intro 9 Tryz.func140 rfl Tryz.ntmps140 rfl (by kernel_rfl) (fun W I a hs => ?_)
 refine wp_seq <| St.region <| hs.sc fun hs => wpList_nil <| then_n <| wp_seq <| St.region <| hs.m fun hs => hs.m fun hs => ?_
 refine hs.o (ok_call (c_slices_IndexFunc_impl_Ver_impl_Ver _ _ _ hf) (args_cons .r (args_cons .tt args_nil))) fun hs => ?_
 refine hs.o (ok_geq .tt .c) fun hs => hs.s fun hs => wpList_nil <| then_n <| wp_ret <| hs.ret rfl (.cons (.t rfl) ResL.nil) ?_
 rfl

theorem c_impl_place_1 (v : Ver) (d : Dep) :
    Fn Tryz.prog 205 [v.av, AV.ptr d.cells] (AV.bool (depIs d v)) := by
 refine Fn.intro 8 Tryz.func205 rfl Tryz.ntmps205 rfl (by kernel_rfl) (fun W I a hs => ?_)
 refine wp_seq <| St.region <| hs.o (ok_boxP .tt) fun hs => hs.sc fun hs => wpList_nil <| then_n <| wp_seq <| hs.dk ?_
 refine .o ((by first | exact ok_loadA ty94 .tt rfl | exact ok_loadS ty94 .tt rfl)) ?_
 refine .o (ok_call (c_impl_Ver_dep ..) (args_cons .tt args_nil)) ?_
 refine .o ((by first | exact ok_loadA ty74 .tt rfl | exact ok_loadS ty74 .tt rfl)) ?_
 refine .o (ok_eqS [_, _, _] [_, _, _] eqt74 rfl rfl .tt .tt) <| .o (ok_assign .tt) <| RunK.nil ?_
 intro I a w hs
 refine then_n <| wp_ret <| hs.ret rfl (.cons (.t rfl) ResL.nil) ?_
 exact ret_bool (depIs_ints d v)

theorem c_impl_place (l : List Ver) (d : Dep) :
    Fn Tryz.prog 132 [versAV l, d.av] (AV.int (placeOf l d)) := by
 refine Fn.intro 8 Tryz.func132 rfl Tryz.ntmps132 rfl (by kernel_rfl) (fun W I a hs => ?_)
 refine wp_seq <| St.region <| hs.o (ok_boxP .tt) fun hs => hs.sc fun hs => wpList_nil <| then_n <| wp_seq <| St.region <| hs.m fun hs => hs.o (ok_makeFunc (args_cons .tt args_nil)) fun hs => ?_
 refine hs.o (ok_call (c_slices_IndexFunc_impl_Ver_impl_Ver l (depIs d) _ (fun v _ => Fn.val (c_impl_place_1 v d))) (args_cons .r (args_cons .tt args_nil))) fun hs => ?_
 refine hs.s fun hs => wpList_nil <| then_n <| wp_ret <| hs.ret rfl (.cons (.t rfl) ResL.nil) ?_
 rfl


def missing (l : List Ver) (d : Dep) : Bool := decide (placeOf l d < 0)
def hasAll (l : List Ver) (ds : List Dep) : Bool := !hasB (missing l) ds

theorem c_impl_hasAll_1 (d : Dep) (l : List Ver) :
    Fn Tryz.prog 209 [d.av, AV.ptr [versAV l]] (AV.bool (missing l d)) := by
 refine Fn.intro 8 Tryz.func209 rfl Tryz.ntmps209 rfl (by kernel_rfl) (fun W I a hs => ?_)
 refine wp_seq <| St.region <| hs.o (ok_boxP .tt) fun hs => hs.sc fun hs => wpList_nil <| then_n <| wp_seq <| St.region <| hs.o (ok_load1 ty48 .tt) fun hs => ?_
 refine hs.o ((by first | exact ok_loadA ty74 .tt rfl | exact ok_loadS ty74 .tt rfl)) fun hs => ?_
 refine hs.o (ok_call (c_impl_place ..) (args_cons .r (args_cons .tt args_nil))) fun hs => ?_
 refine hs.o (ok_lss .tt .c) fun hs => hs.s fun hs => wpList_nil <| then_n <| wp_ret <| hs.ret rfl (.cons (.t rfl) ResL.nil) ?_
 rfl

theorem c_impl_hasAll (l : List Ver) (ds : List Dep) :
    Fn Tryz.prog 135 [versAV l, depsAV ds] (AV.bool (hasAll l ds)) := by
 refine Fn.intro 9 Tryz.func135 rfl Tryz.ntmps135 rfl (by kernel_rfl) (fun W I a hs => ?_)
 refine wp_seq <| St.region ?_
 refine hs.o (ok_boxP1 .tt (by first | exact one_val rfl | exact one_rows | exact one_ptr | exact one_fn)) fun hs => ?_
 refine hs.sc fun hs => wpList_nil <| then_n <| wp_seq <| St.region <| hs.m fun hs => hs.o (ok_makeFunc (args_cons .tt args_nil)) fun hs => ?_
 refine hs.o (ok_call (c_slices_ContainsFunc_impl_Dep_impl_Dep ds (missing l) _ (fun d _ => Fn.val (c_impl_hasAll_1 d l))) (args_cons .r (args_cons .tt args_nil))) fun hs => ?_
 refine hs.o (ok_not .tt) fun hs => hs.s fun hs => wpList_nil <| then_n <| wp_ret <| hs.ret rfl (.cons (.t rfl) ResL.nil) ?_
 rfl

end Go.Proofs.YtlppgilifnkapaaGreat
