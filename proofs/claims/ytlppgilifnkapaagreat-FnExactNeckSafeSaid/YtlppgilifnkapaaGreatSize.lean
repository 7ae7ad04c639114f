/- Walks: how much an argument holds. -/
import Derived.Test.YtlppgilifnkapaaGreatChain
set_option linter.unusedVariables false
set_option linter.unusedSimpArgs false
set_option maxRecDepth 100000
namespace Go.Proofs.YtlppgilifnkapaaGreat
open Go Go.RowKit


def lefts (l : Int) (w : Nat) : Int := if l - w < 0 then -1 else l - w
theorem lefts_add {l : Int} {a b : Nat} (h : 0 ≤ lefts l a) : lefts (lefts l a) b = lefts l (a + b) := by
  unfold lefts at *
  split at h
  · omega
  · split <;> split <;> omega
theorem lefts_neg {l : Int} {a b : Nat} (h : lefts l a < 0) (hab : a ≤ b) : -1 = lefts l b := by
  unfold lefts at *
  split at h <;> split <;> omega
theorem lefts_le {l : Int} {a : Nat} (h : l ≤ 1048576) : lefts l a ≤ 1048576 := by unfold lefts; split <;> omega
theorem lefts_pos {l : Int} {a : Nat} (h : 0 ≤ lefts l a) : (a : Int) ≤ l := by unfold lefts at h; split at h <;> omega
theorem lefts_lt {l : Int} {a b : Nat} (h : l - a < 0) (hab : a ≤ b) : -1 = lefts l b := by unfold lefts; rw [if_pos (by omega)]
theorem lefts_ge {l : Int} {a : Nat} (h : 0 ≤ l - a) : l - a = lefts l a := by unfold lefts; rw [if_neg (by omega)]
def wSum {α : Type} (f : α → Nat) (l : List α) : Nat := (l.map f).sum
theorem wSum_succ {α : Type} [Inhabited α] {f : α → Nat} {l : List α} {k : Nat} (h : k < l.length) : wSum f (l.take (k + 1)) = wSum f (l.take k) + f (elt l k) := by
  unfold wSum; rw [take_elt h, List.map_append, List.sum_append]; simp
theorem wSum_le {α : Type} {f : α → Nat} : ∀ (l : List α) (k : Nat), wSum f (l.take k) ≤ wSum f l
  | [], k => by simp [wSum]
  | x :: l, 0 => by simp [wSum]
  | x :: l, k + 1 => by have := wSum_le (f := f) l k; simp [wSum] at *; omega
theorem wSum_elt {α : Type} [Inhabited α] {f : α → Nat} {l : List α} {k : Nat} (h : k < l.length) : f (elt l k) ≤ wSum f l := by
  have := wSum_succ (f := f) h
  have h2 := wSum_le (f := f) l (k + 1)
  omega
def wDepS (l : List Dep) : Nat := l.length
def wIntS (l : List Int) : Nat := l.length
def wSlotS (l : List Slot) : Nat := l.length
def wVer (v : Ver) : Nat := wDepS v.deps
def wVerS (l : List Ver) : Nat := l.length + wSum wVer l
def wWord (m : Word) : Nat := wDepS m.deps + wVerS m.vers + wVerS m.waits + wDepS m.owes
def wWordS (l : List Word) : Nat := l.length + wSum wWord l
def wServer (s : Server) : Nat := wSlotS s.slots + wVerS s.vers + wVerS s.waits + wDepS s.owes + wDepS s.knows
def wServerS (l : List Server) : Nat := l.length + wSum wServer l
def wAnswer (a : Answer) : Nat := wVer a.ver
def wAnswerS (l : List Answer) : Nat := l.length + wSum wAnswer l
def wCall (k : Call) : Nat := wIntS k.keys + wDepS k.ctx + wAnswerS k.got + wDepS k.needs
def wCallS (l : List Call) : Nat := l.length + wSum wCall l
def wDepSS (l : List (List Dep)) : Nat := l.length + wSum wDepS l
def wNeck (w : Neck) : Nat := wServerS w.servers + wWordS w.radio + wCallS w.calls + wDepSS w.seen

theorem c_laws_szDepS (l : List Dep) (left : Int) (h0 : 0 ≤ left) (h1 : left ≤ 1048576) :
    Fn Tryz.prog 94 [depsAV l, AV.int left] (AV.int (lefts left (wDepS l))) := by
 refine Fn.intro 12 Tryz.func94 rfl Tryz.ntmps94 rfl (by kernel_rfl) (fun W I a hs => ?_)
 have hle := hs.lenleM (t := 0) rfl
 refine wp_seq <| St.region <| hs.sc fun hs => wpList_nil <| then_n <| wp_seq <| St.region <| hs.m fun hs => hs.m fun hs => ?_
 refine hs.o ((by first | exact ok_lenM un121 .tt | exact ok_len un121 .tt | exact ok_lenV un121 .tt)) fun hs => ?_
 refine hs.o (ok_sub .tt .tt (fun _ => by omega)) fun hs => ?_
 refine hs.s fun hs => wpList_nil <| then_n <| wp_seq <| wp_seq <| St.region <| hs.m fun hs => hs.o (ok_lss .tt .c) fun hs => wpList_nil <| then_n ?_
 refine hs.cond .tt (fun hb1 => ?_) (fun hb1 => ?_)
 ·try simp only [B] at hb1
  refine wp_seq <| St.region <| hs.sc fun hs => wpList_nil <| then_n <| wp_ret <| then_r <| hs.ret rfl (.cons (.t rfl) ResL.nil) ?_
  exact ret_int (lefts_lt hb1 (Nat.le_refl _))
 ·try simp only [B] at hb1
  refine wp_skip <| then_n <| wp_seq <| St.region <| hs.m fun hs => hs.s fun hs => wpList_nil <| then_n <| wp_ret <| hs.ret rfl (.cons (.t rfl) ResL.nil) ?_
  exact ret_int (lefts_ge hb1)

theorem c_laws_szIntS (l : List Int) (left : Int) (h0 : 0 ≤ left) (h1 : left ≤ 1048576) :
    Fn Tryz.prog 165 [intsAV l, AV.int left] (AV.int (lefts left (wIntS l))) := by
 refine Fn.intro 12 Tryz.func165 rfl Tryz.ntmps165 rfl (by kernel_rfl) (fun W I a hs => ?_)
 have hle := hs.lenleM (t := 0) rfl
 refine wp_seq <| St.region <| hs.sc fun hs => wpList_nil <| then_n <| wp_seq <| St.region <| hs.m fun hs => hs.m fun hs => ?_
 refine hs.o ((by first | exact ok_lenM un64 .tt | exact ok_len un64 .tt | exact ok_lenV un64 .tt)) fun hs => ?_
 refine hs.o (ok_sub .tt .tt (fun _ => by omega)) fun hs => ?_
 refine hs.s fun hs => wpList_nil <| then_n <| wp_seq <| wp_seq <| St.region <| hs.m fun hs => hs.o (ok_lss .tt .c) fun hs => wpList_nil <| then_n ?_
 refine hs.cond .tt (fun hb1 => ?_) (fun hb1 => ?_)
 ·try simp only [B] at hb1
  refine wp_seq <| St.region <| hs.sc fun hs => wpList_nil <| then_n <| wp_ret <| then_r <| hs.ret rfl (.cons (.t rfl) ResL.nil) ?_
  exact ret_int (lefts_lt hb1 (Nat.le_refl _))
 ·try simp only [B] at hb1
  refine wp_skip <| then_n <| wp_seq <| St.region <| hs.m fun hs => hs.s fun hs => wpList_nil <| then_n <| wp_ret <| hs.ret rfl (.cons (.t rfl) ResL.nil) ?_
  exact ret_int (lefts_ge hb1)

theorem c_laws_szSlotS (l : List Slot) (left : Int) (h0 : 0 ≤ left) (h1 : left ≤ 1048576) :
    Fn Tryz.prog 163 [slotsAV l, AV.int left] (AV.int (lefts left (wSlotS l))) := by
 refine Fn.intro 12 Tryz.func163 rfl Tryz.ntmps163 rfl (by kernel_rfl) (fun W I a hs => ?_)
 have hle := hs.lenleM (t := 0) rfl
 refine wp_seq <| St.region <| hs.sc fun hs => wpList_nil <| then_n <| wp_seq <| St.region <| hs.m fun hs => hs.m fun hs => ?_
 refine hs.o ((by first | exact ok_lenM un119 .tt | exact ok_len un119 .tt | exact ok_lenV un119 .tt)) fun hs => ?_
 refine hs.o (ok_sub .tt .tt (fun _ => by omega)) fun hs => ?_
 refine hs.s fun hs => wpList_nil <| then_n <| wp_seq <| wp_seq <| St.region <| hs.m fun hs => hs.o (ok_lss .tt .c) fun hs => wpList_nil <| then_n ?_
 refine hs.cond .tt (fun hb1 => ?_) (fun hb1 => ?_)
 ·try simp only [B] at hb1
  refine wp_seq <| St.region <| hs.sc fun hs => wpList_nil <| then_n <| wp_ret <| then_r <| hs.ret rfl (.cons (.t rfl) ResL.nil) ?_
  exact ret_int (lefts_lt hb1 (Nat.le_refl _))
 ·try simp only [B] at hb1
  refine wp_skip <| then_n <| wp_seq <| St.region <| hs.m fun hs => hs.s fun hs => wpList_nil <| then_n <| wp_ret <| hs.ret rfl (.cons (.t rfl) ResL.nil) ?_
  exact ret_int (lefts_ge hb1)

theorem c_laws_szVer (x : Ver) (left : Int) (h0 : 0 ≤ left) (h1 : left ≤ 1048576) :
    Fn Tryz.prog 236 [x.av, AV.int left] (AV.int (lefts left (wVer x))) := by
 refine Fn.intro 12 Tryz.func236 rfl Tryz.ntmps236 rfl (by kernel_rfl) (fun W I a hs => ?_)
 refine wp_seq <| St.region <| hs.o (ok_boxP .tt) fun hs => hs.sc fun hs => wpList_nil <| then_n <| wp_seq <| St.region <| hs.o (ok_fieldP fd226_5 rfl .tt) fun hs => hs.o (ok_load1 ty121 .tt) fun hs => hs.m fun hs => ?_
 refine hs.o (ok_call (c_laws_szDepS _ _ h0 h1) (args_cons .r (args_cons .tt args_nil))) fun hs => ?_
 refine hs.s fun hs => wpList_nil <| then_n <| wp_seq <| wp_seq <| St.region <| hs.m fun hs => hs.o (ok_lss .tt .c) fun hs => wpList_nil <| then_n ?_
 refine hs.cond .tt (fun hb1 => ?_) (fun hb1 => ?_)
 ·try simp only [B] at hb1
  refine wp_seq <| St.region <| hs.sc fun hs => wpList_nil <| then_n <| wp_ret <| then_r <| hs.ret rfl (.cons (.t rfl) ResL.nil) ?_
  exact ret_int (lefts_neg hb1 (by unfold wVer; omega))
 ·try simp only [B] at hb1
  refine wp_skip <| then_n <| wp_seq <| St.region <| hs.m fun hs => hs.s fun hs => wpList_nil <| then_n <| wp_ret <| hs.ret rfl (.cons (.t rfl) ResL.nil) ?_
  exact ret_int rfl

theorem c_laws_szVerS (l : List (Ver)) (left : Int) (h0 : 0 ≤ left) (h1 : left ≤ 1048576) :
    Fn Tryz.prog 164 [versAV l, AV.int left] (AV.int (lefts left (wVerS l))) := by
 refine Fn.intro 27 Tryz.func164 rfl Tryz.ntmps164 rfl (by kernel_rfl) (fun W I a hs => ?_)
 have hle := hs.lenleM (t := 0) rfl
 refine wp_seq <| St.region <| hs.sc fun hs => wpList_nil <| then_n <| wp_seq <| St.region <| hs.m fun hs => hs.m fun hs => ?_
 refine hs.o ((by first | exact ok_lenM un120 .tt | exact ok_len un120 .tt | exact ok_lenV un120 .tt)) fun hs => ?_
 refine hs.o (ok_sub .tt .tt (fun _ => by omega)) fun hs => ?_
 refine hs.s fun hs => wpList_nil <| then_n <| wp_seq <| wp_seq <| St.region <| hs.m fun hs => hs.o (ok_lss .tt .c) fun hs => wpList_nil <| then_n ?_
 refine hs.cond .tt (fun hb1 => ?_) (fun hb1 => ?_)
 ·try simp only [B] at hb1
  refine wp_seq <| St.region <| hs.sc fun hs => wpList_nil <| then_n <| wp_ret <| then_r <| hs.ret rfl (.cons (.t rfl) ResL.nil) ?_
  exact ret_int (lefts_lt hb1 (by unfold wVerS; omega))
 ·try simp only [B] at hb1
  refine wp_skip <| then_n <| wp_seq <| wp_seq <| St.region <| hs.sc fun hs => wpList_nil <| then_n <| wp_block ?_
  refine St.loopS (σ := Nat) (1 :: 4 :: 5 :: 12 :: 13 :: 14 :: 15 :: 16 :: 17 :: 18 :: 19 :: 20 :: 21 :: 22 :: 23 :: 24 :: 25 :: []) ⟨fun k => [(5, AV.int k), (1, AV.int (lefts left (l.length + wSum wVer (l.take k))))], fun k => [], fun k => k ≤ l.length ∧ 0 ≤ lefts left (l.length + wSum wVer (l.take k))⟩ (fun k => l.length - k) 0 hs rfl ?ok1 ?env1 ?round1
  case ok1 => exact ⟨Nat.zero_le _, by simp only [lefts, wSum, List.take_zero, List.map_nil, List.sum_nil]; split <;> omega⟩
  case env1 => exact (Env.le_consE rfl (by rfl) (Env.le_consE rfl (by exact congrArg AV.int (by simp only [lefts, wSum, List.take_zero, List.map_nil, List.sum_nil]; split <;> omega)) Env.le_nil))
  case round1 =>
   rintro k I a w hok hs
   obtain ⟨hk, hok2⟩ := hok
   refine wp_seq <| wp_seq <| St.region <| hs.m fun hs => hs.m fun hs => ?_
   refine hs.o ((by first | exact ok_lenM un120 .tt | exact ok_len un120 .tt | exact ok_lenV un120 .tt)) fun hs => ?_
   refine hs.o (ok_lss .tt .tt) fun hs => wpList_nil <| then_n ?_
   refine hs.cond .tt (fun hb2 => ?_) (fun hb2 => ?_)
   ·try simp only [B] at hb2
    refine wp_skip <| then_n <| wp_seq <| wp_block <| wp_seq <| St.region <| hs.m fun hs => hs.m fun hs => ?_
    refine hs.o ((by first | exact ok_idxN un120 ty226 .tt .tt (fun _ => by omega) | exact ok_idxM un120 ty226 .tt .tt (fun _ => by omega) | exact ok_idx un120 ty226 .tt .tt (fun _ => by omega))) fun hs => ?_
    refine hs.o ((by first | exact ok_loadA ty226 .tt rfl | exact ok_loadS ty226 .tt rfl)) fun hs => ?_
    refine hs.m fun hs => hs.o (ok_call (c_laws_szVer _ _ hok2 (lefts_le h1)) (args_cons .tt (args_cons .tt args_nil))) fun hs => ?_
    rw [lefts_add hok2] at hs
    refine hs.s fun hs => wpList_nil <| then_n <| wp_seq <| St.region <| hs.m fun hs => hs.o (ok_lss .tt .c) fun hs => wpList_nil <| then_n ?_
    refine hs.cond .tt (fun hb3 => ?_) (fun hb3 => ?_)
    ·simp only [decide_eq_true_eq] at hb3
     refine wp_seq <| St.region <| hs.sc fun hs => wpList_nil <| then_n <| wp_ret <| block_r <| then_r <| then_r <| block_r <| then_r <| hs.ret rfl (.cons (.t rfl) ResL.nil) ?_
     exact ret_int (lefts_neg hb3 (by have e1 := wSum_succ (f := wVer) hb2; have e2 := wSum_le (f := wVer) l (k + 1); unfold wVerS; omega))
    ·simp only [decide_eq_false_iff_not, Int.not_lt] at hb3
     refine wp_skip <| block_n <| then_n <| St.region <| hs.m fun hs => ?_
     refine hs.o (ok_add .tt .c (fun _ => by omega)) fun hs => ?_
     refine hs.s fun hs => wpList_nil <| then_n ?_
     refine hs.again (k + 1) ?mu1 ?ok1001 (by rfl) ?env1001 (by repeat (first | exact Env.le_rfl | refine Env.le_push rfl ?_))
     case mu1 => omega
     case ok1001 => exact ⟨hb2, by rw [wSum_succ hb2, ← Nat.add_assoc]; exact hb3⟩
     case env1001 => exact (Env.le_consE rfl (by rfl) (Env.le_consE rfl (by exact congrArg AV.int (by rw [wSum_succ hb2, ← Nat.add_assoc])) Env.le_nil))
   ·try simp only [B] at hb2
    refine wp_exit <| then_x <| then_x <| block_hit <| then_n <| wp_seq <| St.region <| hs.m fun hs => hs.s fun hs => wpList_nil <| then_n <| wp_ret <| hs.ret rfl (.cons (.t rfl) ResL.nil) ?_
    exact ret_int (by unfold wVerS; rw [List.take_of_length_le (by omega)])

theorem c_laws_szWord (x : Word) (left : Int) (h0 : 0 ≤ left) (h1 : left ≤ 1048576) :
    Fn Tryz.prog 92 [x.av, AV.int left] (AV.int (lefts left (wWord x))) := by
 refine Fn.intro 30 Tryz.func92 rfl Tryz.ntmps92 rfl (by kernel_rfl) (fun W I a hs => ?_)
 refine wp_seq <| St.region <| hs.o (ok_boxP .tt) fun hs => hs.sc fun hs => wpList_nil <| then_n <| wp_seq <| St.region <| hs.o (ok_fieldP fd127_8 rfl .tt) fun hs => hs.o (ok_load1 ty121 .tt) fun hs => hs.m fun hs => ?_
 refine hs.o (ok_call (c_laws_szDepS _ _ h0 h1) (args_cons .r (args_cons .tt args_nil))) fun hs => ?_
 refine hs.s fun hs => wpList_nil <| then_n <| wp_seq <| wp_seq <| St.region <| hs.m fun hs => hs.o (ok_lss .tt .c) fun hs => wpList_nil <| then_n ?_
 refine hs.cond .tt (fun hb1 => ?_) (fun hb1 => ?_)
 ·try simp only [B] at hb1
  refine wp_seq <| St.region <| hs.sc fun hs => wpList_nil <| then_n <| wp_ret <| then_r <| hs.ret rfl (.cons (.t rfl) ResL.nil) ?_
  exact ret_int (lefts_neg hb1 (by unfold wWord; omega))
 ·try simp only [B] at hb1
  refine wp_skip <| then_n <| wp_seq <| St.region <| hs.o (ok_fieldP fd127_11 rfl .tt) fun hs => hs.o (ok_load1 ty120 .tt) fun hs => hs.m fun hs => ?_
  refine hs.o (ok_call (c_laws_szVerS _ _ hb1 (lefts_le h1)) (args_cons .r (args_cons .tt args_nil))) fun hs => ?_
  rw [lefts_add hb1] at hs
  refine hs.s fun hs => wpList_nil <| then_n <| wp_seq <| wp_seq <| St.region <| hs.m fun hs => hs.o (ok_lss .tt .c) fun hs => wpList_nil <| then_n ?_
  refine hs.cond .tt (fun hb2 => ?_) (fun hb2 => ?_)
  ·try simp only [B] at hb2
   refine wp_seq <| St.region <| hs.sc fun hs => wpList_nil <| then_n <| wp_ret <| then_r <| hs.ret rfl (.cons (.t rfl) ResL.nil) ?_
   exact ret_int (lefts_neg hb2 (by unfold wWord; omega))
  ·try simp only [B] at hb2
   refine wp_skip <| then_n <| wp_seq <| St.region <| hs.o (ok_fieldP fd127_12 rfl .tt) fun hs => hs.o (ok_load1 ty120 .tt) fun hs => hs.m fun hs => ?_
   refine hs.o (ok_call (c_laws_szVerS _ _ hb2 (lefts_le h1)) (args_cons .r (args_cons .tt args_nil))) fun hs => ?_
   rw [lefts_add hb2] at hs
   refine hs.s fun hs => wpList_nil <| then_n <| wp_seq <| wp_seq <| St.region <| hs.m fun hs => hs.o (ok_lss .tt .c) fun hs => wpList_nil <| then_n ?_
   refine hs.cond .tt (fun hb3 => ?_) (fun hb3 => ?_)
   ·try simp only [B] at hb3
    refine wp_seq <| St.region <| hs.sc fun hs => wpList_nil <| then_n <| wp_ret <| then_r <| hs.ret rfl (.cons (.t rfl) ResL.nil) ?_
    exact ret_int (lefts_neg hb3 (by unfold wWord; omega))
   ·try simp only [B] at hb3
    refine wp_skip <| then_n <| wp_seq <| St.region <| hs.o (ok_fieldP fd127_13 rfl .tt) fun hs => hs.o (ok_load1 ty121 .tt) fun hs => hs.m fun hs => ?_
    refine hs.o (ok_call (c_laws_szDepS _ _ hb3 (lefts_le h1)) (args_cons .r (args_cons .tt args_nil))) fun hs => ?_
    rw [lefts_add hb3] at hs
    refine hs.s fun hs => wpList_nil <| then_n <| wp_seq <| wp_seq <| St.region <| hs.m fun hs => hs.o (ok_lss .tt .c) fun hs => wpList_nil <| then_n ?_
    refine hs.cond .tt (fun hb4 => ?_) (fun hb4 => ?_)
    ·try simp only [B] at hb4
     refine wp_seq <| St.region <| hs.sc fun hs => wpList_nil <| then_n <| wp_ret <| then_r <| hs.ret rfl (.cons (.t rfl) ResL.nil) ?_
     exact ret_int (lefts_neg hb4 (by unfold wWord; omega))
    ·try simp only [B] at hb4
     refine wp_skip <| then_n <| wp_seq <| St.region <| hs.m fun hs => hs.s fun hs => wpList_nil <| then_n <| wp_ret <| hs.ret rfl (.cons (.t rfl) ResL.nil) ?_
     exact ret_int rfl

theorem c_laws_szWordS (l : List (Word)) (left : Int) (h0 : 0 ≤ left) (h1 : left ≤ 1048576) :
    Fn Tryz.prog 35 [wordsAV l, AV.int left] (AV.int (lefts left (wWordS l))) := by
 refine Fn.intro 27 Tryz.func35 rfl Tryz.ntmps35 rfl (by kernel_rfl) (fun W I a hs => ?_)
 have hle := hs.lenleM (t := 0) rfl
 refine wp_seq <| St.region <| hs.sc fun hs => wpList_nil <| then_n <| wp_seq <| St.region <| hs.m fun hs => hs.m fun hs => ?_
 refine hs.o ((by first | exact ok_lenM un23 .tt | exact ok_len un23 .tt | exact ok_lenV un23 .tt)) fun hs => ?_
 refine hs.o (ok_sub .tt .tt (fun _ => by omega)) fun hs => ?_
 refine hs.s fun hs => wpList_nil <| then_n <| wp_seq <| wp_seq <| St.region <| hs.m fun hs => hs.o (ok_lss .tt .c) fun hs => wpList_nil <| then_n ?_
 refine hs.cond .tt (fun hb1 => ?_) (fun hb1 => ?_)
 ·try simp only [B] at hb1
  refine wp_seq <| St.region <| hs.sc fun hs => wpList_nil <| then_n <| wp_ret <| then_r <| hs.ret rfl (.cons (.t rfl) ResL.nil) ?_
  exact ret_int (lefts_lt hb1 (by unfold wWordS; omega))
 ·try simp only [B] at hb1
  refine wp_skip <| then_n <| wp_seq <| wp_seq <| St.region <| hs.sc fun hs => wpList_nil <| then_n <| wp_block ?_
  refine St.loopS (σ := Nat) (1 :: 4 :: 5 :: 12 :: 13 :: 14 :: 15 :: 16 :: 17 :: 18 :: 19 :: 20 :: 21 :: 22 :: 23 :: 24 :: 25 :: []) ⟨fun k => [(5, AV.int k), (1, AV.int (lefts left (l.length + wSum wWord (l.take k))))], fun k => [], fun k => k ≤ l.length ∧ 0 ≤ lefts left (l.length + wSum wWord (l.take k))⟩ (fun k => l.length - k) 0 hs rfl ?ok1 ?env1 ?round1
  case ok1 => exact ⟨Nat.zero_le _, by simp only [lefts, wSum, List.take_zero, List.map_nil, List.sum_nil]; split <;> omega⟩
  case env1 => exact (Env.le_consE rfl (by rfl) (Env.le_consE rfl (by exact congrArg AV.int (by simp only [lefts, wSum, List.take_zero, List.map_nil, List.sum_nil]; split <;> omega)) Env.le_nil))
  case round1 =>
   rintro k I a w hok hs
   obtain ⟨hk, hok2⟩ := hok
   refine wp_seq <| wp_seq <| St.region <| hs.m fun hs => hs.m fun hs => ?_
   refine hs.o ((by first | exact ok_lenM un23 .tt | exact ok_len un23 .tt | exact ok_lenV un23 .tt)) fun hs => ?_
   refine hs.o (ok_lss .tt .tt) fun hs => wpList_nil <| then_n ?_
   refine hs.cond .tt (fun hb2 => ?_) (fun hb2 => ?_)
   ·try simp only [B] at hb2
    refine wp_skip <| then_n <| wp_seq <| wp_block <| wp_seq <| St.region <| hs.m fun hs => hs.m fun hs => ?_
    refine hs.o ((by first | exact ok_idxN un23 ty127 .tt .tt (fun _ => by omega) | exact ok_idxM un23 ty127 .tt .tt (fun _ => by omega) | exact ok_idx un23 ty127 .tt .tt (fun _ => by omega))) fun hs => ?_
    refine hs.o ((by first | exact ok_loadA ty127 .tt rfl | exact ok_loadS ty127 .tt rfl)) fun hs => ?_
    refine hs.m fun hs => hs.o (ok_call (c_laws_szWord _ _ hok2 (lefts_le h1)) (args_cons .tt (args_cons .tt args_nil))) fun hs => ?_
    rw [lefts_add hok2] at hs
    refine hs.s fun hs => wpList_nil <| then_n <| wp_seq <| St.region <| hs.m fun hs => hs.o (ok_lss .tt .c) fun hs => wpList_nil <| then_n ?_
    refine hs.cond .tt (fun hb3 => ?_) (fun hb3 => ?_)
    ·simp only [decide_eq_true_eq] at hb3
     refine wp_seq <| St.region <| hs.sc fun hs => wpList_nil <| then_n <| wp_ret <| block_r <| then_r <| then_r <| block_r <| then_r <| hs.ret rfl (.cons (.t rfl) ResL.nil) ?_
     exact ret_int (lefts_neg hb3 (by have e1 := wSum_succ (f := wWord) hb2; have e2 := wSum_le (f := wWord) l (k + 1); unfold wWordS; omega))
    ·simp only [decide_eq_false_iff_not, Int.not_lt] at hb3
     refine wp_skip <| block_n <| then_n <| St.region <| hs.m fun hs => ?_
     refine hs.o (ok_add .tt .c (fun _ => by omega)) fun hs => ?_
     refine hs.s fun hs => wpList_nil <| then_n ?_
     refine hs.again (k + 1) ?mu1 ?ok1001 (by rfl) ?env1001 (by repeat (first | exact Env.le_rfl | refine Env.le_push rfl ?_))
     case mu1 => omega
     case ok1001 => exact ⟨hb2, by rw [wSum_succ hb2, ← Nat.add_assoc]; exact hb3⟩
     case env1001 => exact (Env.le_consE rfl (by rfl) (Env.le_consE rfl (by exact congrArg AV.int (by rw [wSum_succ hb2, ← Nat.add_assoc])) Env.le_nil))
   ·try simp only [B] at hb2
    refine wp_exit <| then_x <| then_x <| block_hit <| then_n <| wp_seq <| St.region <| hs.m fun hs => hs.s fun hs => wpList_nil <| then_n <| wp_ret <| hs.ret rfl (.cons (.t rfl) ResL.nil) ?_
    exact ret_int (by unfold wWordS; rw [List.take_of_length_le (by omega)])

theorem c_laws_szServer (x : Server) (left : Int) (h0 : 0 ≤ left) (h1 : left ≤ 1048576) :
    Fn Tryz.prog 91 [x.av, AV.int left] (AV.int (lefts left (wServer x))) := by
 refine Fn.intro 36 Tryz.func91 rfl Tryz.ntmps91 rfl (by kernel_rfl) (fun W I a hs => ?_)
 refine wp_seq <| St.region <| hs.o (ok_boxP .tt) fun hs => hs.sc fun hs => wpList_nil <| then_n <| wp_seq <| St.region <| hs.o (ok_fieldP fd123_2 rfl .tt) fun hs => hs.o (ok_load1 ty119 .tt) fun hs => hs.m fun hs => ?_
 refine hs.o (ok_call (c_laws_szSlotS _ _ h0 h1) (args_cons .r (args_cons .tt args_nil))) fun hs => ?_
 refine hs.s fun hs => wpList_nil <| then_n <| wp_seq <| wp_seq <| St.region <| hs.m fun hs => hs.o (ok_lss .tt .c) fun hs => wpList_nil <| then_n ?_
 refine hs.cond .tt (fun hb1 => ?_) (fun hb1 => ?_)
 ·try simp only [B] at hb1
  refine wp_seq <| St.region <| hs.sc fun hs => wpList_nil <| then_n <| wp_ret <| then_r <| hs.ret rfl (.cons (.t rfl) ResL.nil) ?_
  exact ret_int (lefts_neg hb1 (by unfold wServer; omega))
 ·try simp only [B] at hb1
  refine wp_skip <| then_n <| wp_seq <| St.region <| hs.o (ok_fieldP fd123_3 rfl .tt) fun hs => hs.o (ok_load1 ty120 .tt) fun hs => hs.m fun hs => ?_
  refine hs.o (ok_call (c_laws_szVerS _ _ hb1 (lefts_le h1)) (args_cons .r (args_cons .tt args_nil))) fun hs => ?_
  rw [lefts_add hb1] at hs
  refine hs.s fun hs => wpList_nil <| then_n <| wp_seq <| wp_seq <| St.region <| hs.m fun hs => hs.o (ok_lss .tt .c) fun hs => wpList_nil <| then_n ?_
  refine hs.cond .tt (fun hb2 => ?_) (fun hb2 => ?_)
  ·try simp only [B] at hb2
   refine wp_seq <| St.region <| hs.sc fun hs => wpList_nil <| then_n <| wp_ret <| then_r <| hs.ret rfl (.cons (.t rfl) ResL.nil) ?_
   exact ret_int (lefts_neg hb2 (by unfold wServer; omega))
  ·try simp only [B] at hb2
   refine wp_skip <| then_n <| wp_seq <| St.region <| hs.o (ok_fieldP fd123_4 rfl .tt) fun hs => hs.o (ok_load1 ty120 .tt) fun hs => hs.m fun hs => ?_
   refine hs.o (ok_call (c_laws_szVerS _ _ hb2 (lefts_le h1)) (args_cons .r (args_cons .tt args_nil))) fun hs => ?_
   rw [lefts_add hb2] at hs
   refine hs.s fun hs => wpList_nil <| then_n <| wp_seq <| wp_seq <| St.region <| hs.m fun hs => hs.o (ok_lss .tt .c) fun hs => wpList_nil <| then_n ?_
   refine hs.cond .tt (fun hb3 => ?_) (fun hb3 => ?_)
   ·try simp only [B] at hb3
    refine wp_seq <| St.region <| hs.sc fun hs => wpList_nil <| then_n <| wp_ret <| then_r <| hs.ret rfl (.cons (.t rfl) ResL.nil) ?_
    exact ret_int (lefts_neg hb3 (by unfold wServer; omega))
   ·try simp only [B] at hb3
    refine wp_skip <| then_n <| wp_seq <| St.region <| hs.o (ok_fieldP fd123_5 rfl .tt) fun hs => hs.o (ok_load1 ty121 .tt) fun hs => hs.m fun hs => ?_
    refine hs.o (ok_call (c_laws_szDepS _ _ hb3 (lefts_le h1)) (args_cons .r (args_cons .tt args_nil))) fun hs => ?_
    rw [lefts_add hb3] at hs
    refine hs.s fun hs => wpList_nil <| then_n <| wp_seq <| wp_seq <| St.region <| hs.m fun hs => hs.o (ok_lss .tt .c) fun hs => wpList_nil <| then_n ?_
    refine hs.cond .tt (fun hb4 => ?_) (fun hb4 => ?_)
    ·try simp only [B] at hb4
     refine wp_seq <| St.region <| hs.sc fun hs => wpList_nil <| then_n <| wp_ret <| then_r <| hs.ret rfl (.cons (.t rfl) ResL.nil) ?_
     exact ret_int (lefts_neg hb4 (by unfold wServer; omega))
    ·try simp only [B] at hb4
     refine wp_skip <| then_n <| wp_seq <| St.region <| hs.o (ok_fieldP fd123_6 rfl .tt) fun hs => hs.o (ok_load1 ty121 .tt) fun hs => hs.m fun hs => ?_
     refine hs.o (ok_call (c_laws_szDepS _ _ hb4 (lefts_le h1)) (args_cons .r (args_cons .tt args_nil))) fun hs => ?_
     rw [lefts_add hb4] at hs
     refine hs.s fun hs => wpList_nil <| then_n <| wp_seq <| wp_seq <| St.region <| hs.m fun hs => hs.o (ok_lss .tt .c) fun hs => wpList_nil <| then_n ?_
     refine hs.cond .tt (fun hb5 => ?_) (fun hb5 => ?_)
     ·try simp only [B] at hb5
      refine wp_seq <| St.region <| hs.sc fun hs => wpList_nil <| then_n <| wp_ret <| then_r <| hs.ret rfl (.cons (.t rfl) ResL.nil) ?_
      exact ret_int (lefts_neg hb5 (by unfold wServer; omega))
     ·try simp only [B] at hb5
      refine wp_skip <| then_n <| wp_seq <| St.region <| hs.m fun hs => hs.s fun hs => wpList_nil <| then_n <| wp_ret <| hs.ret rfl (.cons (.t rfl) ResL.nil) ?_
      exact ret_int rfl

theorem c_laws_szServerS (l : List (Server)) (left : Int) (h0 : 0 ≤ left) (h1 : left ≤ 1048576) :
    Fn Tryz.prog 34 [serversAV l, AV.int left] (AV.int (lefts left (wServerS l))) := by
 refine Fn.intro 27 Tryz.func34 rfl Tryz.ntmps34 rfl (by kernel_rfl) (fun W I a hs => ?_)
 have hle := hs.lenleM (t := 0) rfl
 refine wp_seq <| St.region <| hs.sc fun hs => wpList_nil <| then_n <| wp_seq <| St.region <| hs.m fun hs => hs.m fun hs => ?_
 refine hs.o ((by first | exact ok_lenM un22 .tt | exact ok_len un22 .tt | exact ok_lenV un22 .tt)) fun hs => ?_
 refine hs.o (ok_sub .tt .tt (fun _ => by omega)) fun hs => ?_
 refine hs.s fun hs => wpList_nil <| then_n <| wp_seq <| wp_seq <| St.region <| hs.m fun hs => hs.o (ok_lss .tt .c) fun hs => wpList_nil <| then_n ?_
 refine hs.cond .tt (fun hb1 => ?_) (fun hb1 => ?_)
 ·try simp only [B] at hb1
  refine wp_seq <| St.region <| hs.sc fun hs => wpList_nil <| then_n <| wp_ret <| then_r <| hs.ret rfl (.cons (.t rfl) ResL.nil) ?_
  exact ret_int (lefts_lt hb1 (by unfold wServerS; omega))
 ·try simp only [B] at hb1
  refine wp_skip <| then_n <| wp_seq <| wp_seq <| St.region <| hs.sc fun hs => wpList_nil <| then_n <| wp_block ?_
  refine St.loopS (σ := Nat) (1 :: 4 :: 5 :: 12 :: 13 :: 14 :: 15 :: 16 :: 17 :: 18 :: 19 :: 20 :: 21 :: 22 :: 23 :: 24 :: 25 :: []) ⟨fun k => [(5, AV.int k), (1, AV.int (lefts left (l.length + wSum wServer (l.take k))))], fun k => [], fun k => k ≤ l.length ∧ 0 ≤ lefts left (l.length + wSum wServer (l.take k))⟩ (fun k => l.length - k) 0 hs rfl ?ok1 ?env1 ?round1
  case ok1 => exact ⟨Nat.zero_le _, by simp only [lefts, wSum, List.take_zero, List.map_nil, List.sum_nil]; split <;> omega⟩
  case env1 => exact (Env.le_consE rfl (by rfl) (Env.le_consE rfl (by exact congrArg AV.int (by simp only [lefts, wSum, List.take_zero, List.map_nil, List.sum_nil]; split <;> omega)) Env.le_nil))
  case round1 =>
   rintro k I a w hok hs
   obtain ⟨hk, hok2⟩ := hok
   refine wp_seq <| wp_seq <| St.region <| hs.m fun hs => hs.m fun hs => ?_
   refine hs.o ((by first | exact ok_lenM un22 .tt | exact ok_len un22 .tt | exact ok_lenV un22 .tt)) fun hs => ?_
   refine hs.o (ok_lss .tt .tt) fun hs => wpList_nil <| then_n ?_
   refine hs.cond .tt (fun hb2 => ?_) (fun hb2 => ?_)
   ·try simp only [B] at hb2
    refine wp_skip <| then_n <| wp_seq <| wp_block <| wp_seq <| St.region <| hs.m fun hs => hs.m fun hs => ?_
    refine hs.o ((by first | exact ok_idxN un22 ty123 .tt .tt (fun _ => by omega) | exact ok_idxM un22 ty123 .tt .tt (fun _ => by omega) | exact ok_idx un22 ty123 .tt .tt (fun _ => by omega))) fun hs => ?_
    refine hs.o ((by first | exact ok_loadA ty123 .tt rfl | exact ok_loadS ty123 .tt rfl)) fun hs => ?_
    refine hs.m fun hs => hs.o (ok_call (c_laws_szServer _ _ hok2 (lefts_le h1)) (args_cons .tt (args_cons .tt args_nil))) fun hs => ?_
    rw [lefts_add hok2] at hs
    refine hs.s fun hs => wpList_nil <| then_n <| wp_seq <| St.region <| hs.m fun hs => hs.o (ok_lss .tt .c) fun hs => wpList_nil <| then_n ?_
    refine hs.cond .tt (fun hb3 => ?_) (fun hb3 => ?_)
    ·simp only [decide_eq_true_eq] at hb3
     refine wp_seq <| St.region <| hs.sc fun hs => wpList_nil <| then_n <| wp_ret <| block_r <| then_r <| then_r <| block_r <| then_r <| hs.ret rfl (.cons (.t rfl) ResL.nil) ?_
     exact ret_int (lefts_neg hb3 (by have e1 := wSum_succ (f := wServer) hb2; have e2 := wSum_le (f := wServer) l (k + 1); unfold wServerS; omega))
    ·simp only [decide_eq_false_iff_not, Int.not_lt] at hb3
     refine wp_skip <| block_n <| then_n <| St.region <| hs.m fun hs => ?_
     refine hs.o (ok_add .tt .c (fun _ => by omega)) fun hs => ?_
     refine hs.s fun hs => wpList_nil <| then_n ?_
     refine hs.again (k + 1) ?mu1 ?ok1001 (by rfl) ?env1001 (by repeat (first | exact Env.le_rfl | refine Env.le_push rfl ?_))
     case mu1 => omega
     case ok1001 => exact ⟨hb2, by rw [wSum_succ hb2, ← Nat.add_assoc]; exact hb3⟩
     case env1001 => exact (Env.le_consE rfl (by rfl) (Env.le_consE rfl (by exact congrArg AV.int (by rw [wSum_succ hb2, ← Nat.add_assoc])) Env.le_nil))
   ·try simp only [B] at hb2
    refine wp_exit <| then_x <| then_x <| block_hit <| then_n <| wp_seq <| St.region <| hs.m fun hs => hs.s fun hs => wpList_nil <| then_n <| wp_ret <| hs.ret rfl (.cons (.t rfl) ResL.nil) ?_
    exact ret_int (by unfold wServerS; rw [List.take_of_length_le (by omega)])

theorem c_laws_szAnswer (x : Answer) (left : Int) (h0 : 0 ≤ left) (h1 : left ≤ 1048576) :
    Fn Tryz.prog 237 [x.av, AV.int left] (AV.int (lefts left (wAnswer x))) := by
 refine Fn.intro 12 Tryz.func237 rfl Tryz.ntmps237 rfl (by kernel_rfl) (fun W I a hs => ?_)
 refine wp_seq <| St.region <| hs.o (ok_boxP .tt) fun hs => hs.sc fun hs => wpList_nil <| then_n <| wp_seq <| St.region <| hs.o (ok_fieldP fd229_2 rfl .tt) fun hs => ?_
 refine hs.o ((by first | exact ok_loadA ty226 .tt rfl | exact ok_loadS ty226 .tt rfl)) fun hs => ?_
 refine hs.m fun hs => hs.o (ok_call (c_laws_szVer _ _ h0 h1) (args_cons .tt (args_cons .tt args_nil))) fun hs => hs.s fun hs => wpList_nil <| then_n <| wp_seq <| wp_seq <| St.region <| hs.m fun hs => hs.o (ok_lss .tt .c) fun hs => wpList_nil <| then_n ?_
 refine hs.cond .tt (fun hb1 => ?_) (fun hb1 => ?_)
 ·try simp only [B] at hb1
  refine wp_seq <| St.region <| hs.sc fun hs => wpList_nil <| then_n <| wp_ret <| then_r <| hs.ret rfl (.cons (.t rfl) ResL.nil) ?_
  exact ret_int (lefts_neg hb1 (by unfold wAnswer; omega))
 ·try simp only [B] at hb1
  refine wp_skip <| then_n <| wp_seq <| St.region <| hs.m fun hs => hs.s fun hs => wpList_nil <| then_n <| wp_ret <| hs.ret rfl (.cons (.t rfl) ResL.nil) ?_
  exact ret_int rfl

theorem c_laws_szAnswerS (l : List (Answer)) (left : Int) (h0 : 0 ≤ left) (h1 : left ≤ 1048576) :
    Fn Tryz.prog 166 [answersAV l, AV.int left] (AV.int (lefts left (wAnswerS l))) := by
 refine Fn.intro 27 Tryz.func166 rfl Tryz.ntmps166 rfl (by kernel_rfl) (fun W I a hs => ?_)
 have hle := hs.lenleM (t := 0) rfl
 refine wp_seq <| St.region <| hs.sc fun hs => wpList_nil <| then_n <| wp_seq <| St.region <| hs.m fun hs => hs.m fun hs => ?_
 refine hs.o ((by first | exact ok_lenM un129 .tt | exact ok_len un129 .tt | exact ok_lenV un129 .tt)) fun hs => ?_
 refine hs.o (ok_sub .tt .tt (fun _ => by omega)) fun hs => ?_
 refine hs.s fun hs => wpList_nil <| then_n <| wp_seq <| wp_seq <| St.region <| hs.m fun hs => hs.o (ok_lss .tt .c) fun hs => wpList_nil <| then_n ?_
 refine hs.cond .tt (fun hb1 => ?_) (fun hb1 => ?_)
 ·try simp only [B] at hb1
  refine wp_seq <| St.region <| hs.sc fun hs => wpList_nil <| then_n <| wp_ret <| then_r <| hs.ret rfl (.cons (.t rfl) ResL.nil) ?_
  exact ret_int (lefts_lt hb1 (by unfold wAnswerS; omega))
 ·try simp only [B] at hb1
  refine wp_skip <| then_n <| wp_seq <| wp_seq <| St.region <| hs.sc fun hs => wpList_nil <| then_n <| wp_block ?_
  refine St.loopS (σ := Nat) (1 :: 4 :: 5 :: 12 :: 13 :: 14 :: 15 :: 16 :: 17 :: 18 :: 19 :: 20 :: 21 :: 22 :: 23 :: 24 :: 25 :: []) ⟨fun k => [(5, AV.int k), (1, AV.int (lefts left (l.length + wSum wAnswer (l.take k))))], fun k => [], fun k => k ≤ l.length ∧ 0 ≤ lefts left (l.length + wSum wAnswer (l.take k))⟩ (fun k => l.length - k) 0 hs rfl ?ok1 ?env1 ?round1
  case ok1 => exact ⟨Nat.zero_le _, by simp only [lefts, wSum, List.take_zero, List.map_nil, List.sum_nil]; split <;> omega⟩
  case env1 => exact (Env.le_consE rfl (by rfl) (Env.le_consE rfl (by exact congrArg AV.int (by simp only [lefts, wSum, List.take_zero, List.map_nil, List.sum_nil]; split <;> omega)) Env.le_nil))
  case round1 =>
   rintro k I a w hok hs
   obtain ⟨hk, hok2⟩ := hok
   refine wp_seq <| wp_seq <| St.region <| hs.m fun hs => hs.m fun hs => ?_
   refine hs.o ((by first | exact ok_lenM un129 .tt | exact ok_len un129 .tt | exact ok_lenV un129 .tt)) fun hs => ?_
   refine hs.o (ok_lss .tt .tt) fun hs => wpList_nil <| then_n ?_
   refine hs.cond .tt (fun hb2 => ?_) (fun hb2 => ?_)
   ·try simp only [B] at hb2
    refine wp_skip <| then_n <| wp_seq <| wp_block <| wp_seq <| St.region <| hs.m fun hs => hs.m fun hs => ?_
    refine hs.o ((by first | exact ok_idxN un129 ty229 .tt .tt (fun _ => by omega) | exact ok_idxM un129 ty229 .tt .tt (fun _ => by omega) | exact ok_idx un129 ty229 .tt .tt (fun _ => by omega))) fun hs => ?_
    refine hs.o ((by first | exact ok_loadA ty229 .tt rfl | exact ok_loadS ty229 .tt rfl)) fun hs => ?_
    refine hs.m fun hs => hs.o (ok_call (c_laws_szAnswer _ _ hok2 (lefts_le h1)) (args_cons .tt (args_cons .tt args_nil))) fun hs => ?_
    rw [lefts_add hok2] at hs
    refine hs.s fun hs => wpList_nil <| then_n <| wp_seq <| St.region <| hs.m fun hs => hs.o (ok_lss .tt .c) fun hs => wpList_nil <| then_n ?_
    refine hs.cond .tt (fun hb3 => ?_) (fun hb3 => ?_)
    ·simp only [decide_eq_true_eq] at hb3
     refine wp_seq <| St.region <| hs.sc fun hs => wpList_nil <| then_n <| wp_ret <| block_r <| then_r <| then_r <| block_r <| then_r <| hs.ret rfl (.cons (.t rfl) ResL.nil) ?_
     exact ret_int (lefts_neg hb3 (by have e1 := wSum_succ (f := wAnswer) hb2; have e2 := wSum_le (f := wAnswer) l (k + 1); unfold wAnswerS; omega))
    ·simp only [decide_eq_false_iff_not, Int.not_lt] at hb3
     refine wp_skip <| block_n <| then_n <| St.region <| hs.m fun hs => ?_
     refine hs.o (ok_add .tt .c (fun _ => by omega)) fun hs => ?_
     refine hs.s fun hs => wpList_nil <| then_n ?_
     refine hs.again (k + 1) ?mu1 ?ok1001 (by rfl) ?env1001 (by repeat (first | exact Env.le_rfl | refine Env.le_push rfl ?_))
     case mu1 => omega
     case ok1001 => exact ⟨hb2, by rw [wSum_succ hb2, ← Nat.add_assoc]; exact hb3⟩
     case env1001 => exact (Env.le_consE rfl (by rfl) (Env.le_consE rfl (by exact congrArg AV.int (by rw [wSum_succ hb2, ← Nat.add_assoc])) Env.le_nil))
   ·try simp only [B] at hb2
    refine wp_exit <| then_x <| then_x <| block_hit <| then_n <| wp_seq <| St.region <| hs.m fun hs => hs.s fun hs => wpList_nil <| then_n <| wp_ret <| hs.ret rfl (.cons (.t rfl) ResL.nil) ?_
    exact ret_int (by unfold wAnswerS; rw [List.take_of_length_le (by omega)])

theorem c_laws_szCall (x : Call) (left : Int) (h0 : 0 ≤ left) (h1 : left ≤ 1048576) :
    Fn Tryz.prog 93 [x.av, AV.int left] (AV.int (lefts left (wCall x))) := by
 refine Fn.intro 30 Tryz.func93 rfl Tryz.ntmps93 rfl (by kernel_rfl) (fun W I a hs => ?_)
 refine wp_seq <| St.region <| hs.o (ok_boxP .tt) fun hs => hs.sc fun hs => wpList_nil <| then_n <| wp_seq <| St.region <| hs.o (ok_fieldP fd131_3 rfl .tt) fun hs => hs.o (ok_load1 ty64 .tt) fun hs => hs.m fun hs => ?_
 refine hs.o (ok_call (c_laws_szIntS _ _ h0 h1) (args_cons .r (args_cons .tt args_nil))) fun hs => ?_
 refine hs.s fun hs => wpList_nil <| then_n <| wp_seq <| wp_seq <| St.region <| hs.m fun hs => hs.o (ok_lss .tt .c) fun hs => wpList_nil <| then_n ?_
 refine hs.cond .tt (fun hb1 => ?_) (fun hb1 => ?_)
 ·try simp only [B] at hb1
  refine wp_seq <| St.region <| hs.sc fun hs => wpList_nil <| then_n <| wp_ret <| then_r <| hs.ret rfl (.cons (.t rfl) ResL.nil) ?_
  exact ret_int (lefts_neg hb1 (by unfold wCall; omega))
 ·try simp only [B] at hb1
  refine wp_skip <| then_n <| wp_seq <| St.region <| hs.o (ok_fieldP fd131_5 rfl .tt) fun hs => hs.o (ok_load1 ty121 .tt) fun hs => hs.m fun hs => ?_
  refine hs.o (ok_call (c_laws_szDepS _ _ hb1 (lefts_le h1)) (args_cons .r (args_cons .tt args_nil))) fun hs => ?_
  rw [lefts_add hb1] at hs
  refine hs.s fun hs => wpList_nil <| then_n <| wp_seq <| wp_seq <| St.region <| hs.m fun hs => hs.o (ok_lss .tt .c) fun hs => wpList_nil <| then_n ?_
  refine hs.cond .tt (fun hb2 => ?_) (fun hb2 => ?_)
  ·try simp only [B] at hb2
   refine wp_seq <| St.region <| hs.sc fun hs => wpList_nil <| then_n <| wp_ret <| then_r <| hs.ret rfl (.cons (.t rfl) ResL.nil) ?_
   exact ret_int (lefts_neg hb2 (by unfold wCall; omega))
  ·try simp only [B] at hb2
   refine wp_skip <| then_n <| wp_seq <| St.region <| hs.o (ok_fieldP fd131_10 rfl .tt) fun hs => hs.o (ok_load1 ty129 .tt) fun hs => hs.m fun hs => ?_
   refine hs.o (ok_call (c_laws_szAnswerS _ _ hb2 (lefts_le h1)) (args_cons .r (args_cons .tt args_nil))) fun hs => ?_
   rw [lefts_add hb2] at hs
   refine hs.s fun hs => wpList_nil <| then_n <| wp_seq <| wp_seq <| St.region <| hs.m fun hs => hs.o (ok_lss .tt .c) fun hs => wpList_nil <| then_n ?_
   refine hs.cond .tt (fun hb3 => ?_) (fun hb3 => ?_)
   ·try simp only [B] at hb3
    refine wp_seq <| St.region <| hs.sc fun hs => wpList_nil <| then_n <| wp_ret <| then_r <| hs.ret rfl (.cons (.t rfl) ResL.nil) ?_
    exact ret_int (lefts_neg hb3 (by unfold wCall; omega))
   ·try simp only [B] at hb3
    refine wp_skip <| then_n <| wp_seq <| St.region <| hs.o (ok_fieldP fd131_11 rfl .tt) fun hs => hs.o (ok_load1 ty121 .tt) fun hs => hs.m fun hs => ?_
    refine hs.o (ok_call (c_laws_szDepS _ _ hb3 (lefts_le h1)) (args_cons .r (args_cons .tt args_nil))) fun hs => ?_
    rw [lefts_add hb3] at hs
    refine hs.s fun hs => wpList_nil <| then_n <| wp_seq <| wp_seq <| St.region <| hs.m fun hs => hs.o (ok_lss .tt .c) fun hs => wpList_nil <| then_n ?_
    refine hs.cond .tt (fun hb4 => ?_) (fun hb4 => ?_)
    ·try simp only [B] at hb4
     refine wp_seq <| St.region <| hs.sc fun hs => wpList_nil <| then_n <| wp_ret <| then_r <| hs.ret rfl (.cons (.t rfl) ResL.nil) ?_
     exact ret_int (lefts_neg hb4 (by unfold wCall; omega))
    ·try simp only [B] at hb4
     refine wp_skip <| then_n <| wp_seq <| St.region <| hs.m fun hs => hs.s fun hs => wpList_nil <| then_n <| wp_ret <| hs.ret rfl (.cons (.t rfl) ResL.nil) ?_
     exact ret_int rfl

theorem c_laws_szCallS (l : List (Call)) (left : Int) (h0 : 0 ≤ left) (h1 : left ≤ 1048576) :
    Fn Tryz.prog 36 [callsAV l, AV.int left] (AV.int (lefts left (wCallS l))) := by
 refine Fn.intro 27 Tryz.func36 rfl Tryz.ntmps36 rfl (by kernel_rfl) (fun W I a hs => ?_)
 have hle := hs.lenleM (t := 0) rfl
 refine wp_seq <| St.region <| hs.sc fun hs => wpList_nil <| then_n <| wp_seq <| St.region <| hs.m fun hs => hs.m fun hs => ?_
 refine hs.o ((by first | exact ok_lenM un24 .tt | exact ok_len un24 .tt | exact ok_lenV un24 .tt)) fun hs => ?_
 refine hs.o (ok_sub .tt .tt (fun _ => by omega)) fun hs => ?_
 refine hs.s fun hs => wpList_nil <| then_n <| wp_seq <| wp_seq <| St.region <| hs.m fun hs => hs.o (ok_lss .tt .c) fun hs => wpList_nil <| then_n ?_
 refine hs.cond .tt (fun hb1 => ?_) (fun hb1 => ?_)
 ·try simp only [B] at hb1
  refine wp_seq <| St.region <| hs.sc fun hs => wpList_nil <| then_n <| wp_ret <| then_r <| hs.ret rfl (.cons (.t rfl) ResL.nil) ?_
  exact ret_int (lefts_lt hb1 (by unfold wCallS; omega))
 ·try simp only [B] at hb1
  refine wp_skip <| then_n <| wp_seq <| wp_seq <| St.region <| hs.sc fun hs => wpList_nil <| then_n <| wp_block ?_
  refine St.loopS (σ := Nat) (1 :: 4 :: 5 :: 12 :: 13 :: 14 :: 15 :: 16 :: 17 :: 18 :: 19 :: 20 :: 21 :: 22 :: 23 :: 24 :: 25 :: []) ⟨fun k => [(5, AV.int k), (1, AV.int (lefts left (l.length + wSum wCall (l.take k))))], fun k => [], fun k => k ≤ l.length ∧ 0 ≤ lefts left (l.length + wSum wCall (l.take k))⟩ (fun k => l.length - k) 0 hs rfl ?ok1 ?env1 ?round1
  case ok1 => exact ⟨Nat.zero_le _, by simp only [lefts, wSum, List.take_zero, List.map_nil, List.sum_nil]; split <;> omega⟩
  case env1 => exact (Env.le_consE rfl (by rfl) (Env.le_consE rfl (by exact congrArg AV.int (by simp only [lefts, wSum, List.take_zero, List.map_nil, List.sum_nil]; split <;> omega)) Env.le_nil))
  case round1 =>
   rintro k I a w hok hs
   obtain ⟨hk, hok2⟩ := hok
   refine wp_seq <| wp_seq <| St.region <| hs.m fun hs => hs.m fun hs => ?_
   refine hs.o ((by first | exact ok_lenM un24 .tt | exact ok_len un24 .tt | exact ok_lenV un24 .tt)) fun hs => ?_
   refine hs.o (ok_lss .tt .tt) fun hs => wpList_nil <| then_n ?_
   refine hs.cond .tt (fun hb2 => ?_) (fun hb2 => ?_)
   ·try simp only [B] at hb2
    refine wp_skip <| then_n <| wp_seq <| wp_block <| wp_seq <| St.region <| hs.m fun hs => hs.m fun hs => ?_
    refine hs.o ((by first | exact ok_idxN un24 ty131 .tt .tt (fun _ => by omega) | exact ok_idxM un24 ty131 .tt .tt (fun _ => by omega) | exact ok_idx un24 ty131 .tt .tt (fun _ => by omega))) fun hs => ?_
    refine hs.o ((by first | exact ok_loadA ty131 .tt rfl | exact ok_loadS ty131 .tt rfl)) fun hs => ?_
    refine hs.m fun hs => hs.o (ok_call (c_laws_szCall _ _ hok2 (lefts_le h1)) (args_cons .tt (args_cons .tt args_nil))) fun hs => ?_
    rw [lefts_add hok2] at hs
    refine hs.s fun hs => wpList_nil <| then_n <| wp_seq <| St.region <| hs.m fun hs => hs.o (ok_lss .tt .c) fun hs => wpList_nil <| then_n ?_
    refine hs.cond .tt (fun hb3 => ?_) (fun hb3 => ?_)
    ·simp only [decide_eq_true_eq] at hb3
     refine wp_seq <| St.region <| hs.sc fun hs => wpList_nil <| then_n <| wp_ret <| block_r <| then_r <| then_r <| block_r <| then_r <| hs.ret rfl (.cons (.t rfl) ResL.nil) ?_
     exact ret_int (lefts_neg hb3 (by have e1 := wSum_succ (f := wCall) hb2; have e2 := wSum_le (f := wCall) l (k + 1); unfold wCallS; omega))
    ·simp only [decide_eq_false_iff_not, Int.not_lt] at hb3
     refine wp_skip <| block_n <| then_n <| St.region <| hs.m fun hs => ?_
     refine hs.o (ok_add .tt .c (fun _ => by omega)) fun hs => ?_
     refine hs.s fun hs => wpList_nil <| then_n ?_
     refine hs.again (k + 1) ?mu1 ?ok1001 (by rfl) ?env1001 (by repeat (first | exact Env.le_rfl | refine Env.le_push rfl ?_))
     case mu1 => omega
     case ok1001 => exact ⟨hb2, by rw [wSum_succ hb2, ← Nat.add_assoc]; exact hb3⟩
     case env1001 => exact (Env.le_consE rfl (by rfl) (Env.le_consE rfl (by exact congrArg AV.int (by rw [wSum_succ hb2, ← Nat.add_assoc])) Env.le_nil))
   ·try simp only [B] at hb2
    refine wp_exit <| then_x <| then_x <| block_hit <| then_n <| wp_seq <| St.region <| hs.m fun hs => hs.s fun hs => wpList_nil <| then_n <| wp_ret <| hs.ret rfl (.cons (.t rfl) ResL.nil) ?_
    exact ret_int (by unfold wCallS; rw [List.take_of_length_le (by omega)])

theorem c_laws_szDepSS (l : List (List Dep)) (left : Int) (h0 : 0 ≤ left) (h1 : left ≤ 1048576) :
    Fn Tryz.prog 37 [seenAV l, AV.int left] (AV.int (lefts left (wDepSS l))) := by
 refine Fn.intro 27 Tryz.func37 rfl Tryz.ntmps37 rfl (by kernel_rfl) (fun W I a hs => ?_)
 have hle := hs.lenleM (t := 0) rfl
 refine wp_seq <| St.region <| hs.sc fun hs => wpList_nil <| then_n <| wp_seq <| St.region <| hs.m fun hs => hs.m fun hs => ?_
 refine hs.o ((by first | exact ok_lenM un25 .tt | exact ok_len un25 .tt | exact ok_lenV un25 .tt)) fun hs => ?_
 refine hs.o (ok_sub .tt .tt (fun _ => by omega)) fun hs => ?_
 refine hs.s fun hs => wpList_nil <| then_n <| wp_seq <| wp_seq <| St.region <| hs.m fun hs => hs.o (ok_lss .tt .c) fun hs => wpList_nil <| then_n ?_
 refine hs.cond .tt (fun hb1 => ?_) (fun hb1 => ?_)
 ·try simp only [B] at hb1
  refine wp_seq <| St.region <| hs.sc fun hs => wpList_nil <| then_n <| wp_ret <| then_r <| hs.ret rfl (.cons (.t rfl) ResL.nil) ?_
  exact ret_int (lefts_lt hb1 (by unfold wDepSS; omega))
 ·try simp only [B] at hb1
  refine wp_skip <| then_n <| wp_seq <| wp_seq <| St.region <| hs.sc fun hs => wpList_nil <| then_n <| wp_block ?_
  refine St.loopS (σ := Nat) (1 :: 4 :: 5 :: 12 :: 13 :: 14 :: 15 :: 16 :: 17 :: 18 :: 19 :: 20 :: 21 :: 22 :: 23 :: 24 :: 25 :: []) ⟨fun k => [(5, AV.int k), (1, AV.int (lefts left (l.length + wSum wDepS (l.take k))))], fun k => [], fun k => k ≤ l.length ∧ 0 ≤ lefts left (l.length + wSum wDepS (l.take k))⟩ (fun k => l.length - k) 0 hs rfl ?ok1 ?env1 ?round1
  case ok1 => exact ⟨Nat.zero_le _, by simp only [lefts, wSum, List.take_zero, List.map_nil, List.sum_nil]; split <;> omega⟩
  case env1 => exact (Env.le_consE rfl (by rfl) (Env.le_consE rfl (by exact congrArg AV.int (by simp only [lefts, wSum, List.take_zero, List.map_nil, List.sum_nil]; split <;> omega)) Env.le_nil))
  case round1 =>
   rintro k I a w hok hs
   obtain ⟨hk, hok2⟩ := hok
   refine wp_seq <| wp_seq <| St.region <| hs.m fun hs => hs.m fun hs => ?_
   refine hs.o ((by first | exact ok_lenM un25 .tt | exact ok_len un25 .tt | exact ok_lenV un25 .tt)) fun hs => ?_
   refine hs.o (ok_lss .tt .tt) fun hs => wpList_nil <| then_n ?_
   refine hs.cond .tt (fun hb2 => ?_) (fun hb2 => ?_)
   ·try simp only [B] at hb2
    refine wp_skip <| then_n <| wp_seq <| wp_block <| wp_seq <| St.region <| hs.m fun hs => hs.m fun hs => ?_
    refine hs.o ((by first | exact ok_idxN un25 ty121 .tt .tt (fun _ => by omega) | exact ok_idxM un25 ty121 .tt .tt (fun _ => by omega) | exact ok_idx un25 ty121 .tt .tt (fun _ => by omega))) fun hs => ?_
    refine hs.o (ok_load1 ty121 .tt) fun hs => hs.m fun hs => ?_
    refine hs.o (ok_call (c_laws_szDepS _ _ hok2 (lefts_le h1)) (args_cons .r (args_cons .tt args_nil))) fun hs => ?_
    rw [lefts_add hok2] at hs
    refine hs.s fun hs => wpList_nil <| then_n <| wp_seq <| St.region <| hs.m fun hs => hs.o (ok_lss .tt .c) fun hs => wpList_nil <| then_n ?_
    refine hs.cond .tt (fun hb3 => ?_) (fun hb3 => ?_)
    ·simp only [decide_eq_true_eq] at hb3
     refine wp_seq <| St.region <| hs.sc fun hs => wpList_nil <| then_n <| wp_ret <| block_r <| then_r <| then_r <| block_r <| then_r <| hs.ret rfl (.cons (.t rfl) ResL.nil) ?_
     exact ret_int (lefts_neg hb3 (by have e1 := wSum_succ (f := wDepS) hb2; have e2 := wSum_le (f := wDepS) l (k + 1); unfold wDepSS; omega))
    ·simp only [decide_eq_false_iff_not, Int.not_lt] at hb3
     refine wp_skip <| block_n <| then_n <| St.region <| hs.m fun hs => ?_
     refine hs.o (ok_add .tt .c (fun _ => by omega)) fun hs => ?_
     refine hs.s fun hs => wpList_nil <| then_n ?_
     refine hs.again (k + 1) ?mu1 ?ok1001 (by rfl) ?env1001 (by repeat (first | exact Env.le_rfl | refine Env.le_push rfl ?_))
     case mu1 => omega
     case ok1001 => exact ⟨hb2, by rw [wSum_succ hb2, ← Nat.add_assoc]; exact hb3⟩
     case env1001 => exact (Env.le_consE rfl (by rfl) (Env.le_consE rfl (by exact congrArg AV.int (by rw [wSum_succ hb2, ← Nat.add_assoc])) Env.le_nil))
   ·try simp only [B] at hb2
    refine wp_exit <| then_x <| then_x <| block_hit <| then_n <| wp_seq <| St.region <| hs.m fun hs => hs.s fun hs => wpList_nil <| then_n <| wp_ret <| hs.ret rfl (.cons (.t rfl) ResL.nil) ?_
    exact ret_int (by unfold wDepSS; rw [List.take_of_length_le (by omega)])

theorem c_laws_szNeck (x : Neck) (left : Int) (h0 : 0 ≤ left) (h1 : left ≤ 1048576) :
    Fn Tryz.prog 9 [x.av, AV.int left] (AV.int (lefts left (wNeck x))) := by
 refine Fn.intro 30 Tryz.func9 rfl Tryz.ntmps9 rfl (by kernel_rfl) (fun W I a hs => ?_)
 refine wp_seq <| St.region <| hs.o (ok_boxP .tt) fun hs => hs.sc fun hs => wpList_nil <| then_n <| wp_seq <| St.region <| hs.o (ok_fieldP fd27_1 rfl .tt) fun hs => hs.o (ok_load1 ty22 .tt) fun hs => hs.m fun hs => ?_
 refine hs.o (ok_call (c_laws_szServerS _ _ h0 h1) (args_cons .r (args_cons .tt args_nil))) fun hs => ?_
 refine hs.s fun hs => wpList_nil <| then_n <| wp_seq <| wp_seq <| St.region <| hs.m fun hs => hs.o (ok_lss .tt .c) fun hs => wpList_nil <| then_n ?_
 refine hs.cond .tt (fun hb1 => ?_) (fun hb1 => ?_)
 ·try simp only [B] at hb1
  refine wp_seq <| St.region <| hs.sc fun hs => wpList_nil <| then_n <| wp_ret <| then_r <| hs.ret rfl (.cons (.t rfl) ResL.nil) ?_
  exact ret_int (lefts_neg hb1 (by unfold wNeck; omega))
 ·try simp only [B] at hb1
  refine wp_skip <| then_n <| wp_seq <| St.region <| hs.o (ok_fieldP fd27_2 rfl .tt) fun hs => hs.o (ok_load1 ty23 .tt) fun hs => hs.m fun hs => ?_
  refine hs.o (ok_call (c_laws_szWordS _ _ hb1 (lefts_le h1)) (args_cons .r (args_cons .tt args_nil))) fun hs => ?_
  rw [lefts_add hb1] at hs
  refine hs.s fun hs => wpList_nil <| then_n <| wp_seq <| wp_seq <| St.region <| hs.m fun hs => hs.o (ok_lss .tt .c) fun hs => wpList_nil <| then_n ?_
  refine hs.cond .tt (fun hb2 => ?_) (fun hb2 => ?_)
  ·try simp only [B] at hb2
   refine wp_seq <| St.region <| hs.sc fun hs => wpList_nil <| then_n <| wp_ret <| then_r <| hs.ret rfl (.cons (.t rfl) ResL.nil) ?_
   exact ret_int (lefts_neg hb2 (by unfold wNeck; omega))
  ·try simp only [B] at hb2
   refine wp_skip <| then_n <| wp_seq <| St.region <| hs.o (ok_fieldP fd27_3 rfl .tt) fun hs => hs.o (ok_load1 ty24 .tt) fun hs => hs.m fun hs => ?_
   refine hs.o (ok_call (c_laws_szCallS _ _ hb2 (lefts_le h1)) (args_cons .r (args_cons .tt args_nil))) fun hs => ?_
   rw [lefts_add hb2] at hs
   refine hs.s fun hs => wpList_nil <| then_n <| wp_seq <| wp_seq <| St.region <| hs.m fun hs => hs.o (ok_lss .tt .c) fun hs => wpList_nil <| then_n ?_
   refine hs.cond .tt (fun hb3 => ?_) (fun hb3 => ?_)
   ·try simp only [B] at hb3
    refine wp_seq <| St.region <| hs.sc fun hs => wpList_nil <| then_n <| wp_ret <| then_r <| hs.ret rfl (.cons (.t rfl) ResL.nil) ?_
    exact ret_int (lefts_neg hb3 (by unfold wNeck; omega))
   ·try simp only [B] at hb3
    refine wp_skip <| then_n <| wp_seq <| St.region <| hs.o (ok_fieldP fd27_4 rfl .tt) fun hs => hs.o (ok_load1 ty25 .tt) fun hs => hs.m fun hs => ?_
    refine hs.o (ok_call (c_laws_szDepSS _ _ hb3 (lefts_le h1)) (args_cons .r (args_cons .tt args_nil))) fun hs => ?_
    rw [lefts_add hb3] at hs
    refine hs.s fun hs => wpList_nil <| then_n <| wp_seq <| wp_seq <| St.region <| hs.m fun hs => hs.o (ok_lss .tt .c) fun hs => wpList_nil <| then_n ?_
    refine hs.cond .tt (fun hb4 => ?_) (fun hb4 => ?_)
    ·try simp only [B] at hb4
     refine wp_seq <| St.region <| hs.sc fun hs => wpList_nil <| then_n <| wp_ret <| then_r <| hs.ret rfl (.cons (.t rfl) ResL.nil) ?_
     exact ret_int (lefts_neg hb4 (by unfold wNeck; omega))
    ·try simp only [B] at hb4
     refine wp_skip <| then_n <| wp_seq <| St.region <| hs.m fun hs => hs.s fun hs => wpList_nil <| then_n <| wp_ret <| hs.ret rfl (.cons (.t rfl) ResL.nil) ?_
     exact ret_int rfl

end Go.Proofs.YtlppgilifnkapaaGreat
