/- Part 21: rules of the proofs, contracts of functions, plain facts. -/
import Derived.Test.YtkoebplikhlapaaGreatDoorP18
import Derived.Test.YtkoebplikhlapaaGreatDoorP20
set_option linter.unusedVariables false
set_option linter.unusedSimpArgs false
set_option maxRecDepth 100000
namespace Go.Proofs.YtkoebplikhlapaaGreatDoor
open Go Go.RowKit
def insV : List Ver → Ver → List Ver
  | [], v => [v]
  | x :: r, v => if verLess x v then x :: insV r v else v :: x :: r
def insV2 : List Ver → Ver → List Ver
  | [], v => [v]
  | x :: r, v => if verLess v x then v :: x :: r else x :: insV2 r v
theorem dep_total {a b : Dep} (h : depLess a b = false) (h' : depLess b a = false) : a = b := by
  obtain ⟨k, ⟨t, s⟩⟩ := a
  obtain ⟨k', ⟨t', s'⟩⟩ := b
  simp [depLess, stampLess] at h h'
  simp
  omega
theorem depLess_asymm {a b : Dep} (h : depLess a b = true) : depLess b a = false := by
  obtain ⟨k, ⟨t, s⟩⟩ := a
  obtain ⟨k', ⟨t', s'⟩⟩ := b
  simp [depLess, stampLess] at h ⊢
  omega
theorem depLess_irrefl (a : Dep) : depLess a a = false := by simp [depLess, stampLess]
theorem depLess_trans {a b d : Dep} (h : depLess a b = true) (h' : depLess b d = true) : depLess a d = true := by
  obtain ⟨k, ⟨t, s⟩⟩ := a
  obtain ⟨k', ⟨t', s'⟩⟩ := b
  obtain ⟨k2, ⟨t2, s2⟩⟩ := d
  simp [depLess, stampLess] at h h' ⊢
  omega
def VS (l : List Ver) : Prop := l.Pairwise fun a b => verLess a b = true
theorem insV2_eq : ∀ {l : List Ver} {v : Ver}, (∀ x ∈ l, x.dep ≠ v.dep) → insV2 l v = insV l v
  | [], _, _ => rfl
  | x :: r, v, h => by
    have hx := h x (by simp)
    have ih := insV2_eq (l := r) (v := v) fun y hy => h y (by simp [hy])
    unfold insV insV2
    cases h1 : verLess v x
    · cases h2 : verLess x v
      · exact absurd (dep_total h2 h1) hx
      · simp [ih]
    · rw [show verLess x v = false from depLess_asymm h1]; simp
theorem insV_mem : ∀ {l : List Ver} {v x : Ver}, x ∈ insV l v ↔ x = v ∨ x ∈ l
  | [], v, x => by simp [insV]
  | y :: r, v, x => by
    unfold insV
    split
    · rw [List.mem_cons, insV_mem (l := r), List.mem_cons]
      constructor
      · rintro (h | h | h) <;> simp [h]
      · rintro (h | h | h) <;> simp [h]
    · rw [List.mem_cons]
theorem insV_len (l : List Ver) (v : Ver) : (insV l v).length = l.length + 1 := by
  induction l with
  | nil => rfl
  | cons x r ih => unfold insV; split <;> simp [ih]
theorem insV_sorted : ∀ {l : List Ver} {v : Ver}, VS l → (∀ x ∈ l, x.dep ≠ v.dep) → VS (insV l v)
  | [], v, _, _ => by simp [insV, VS]
  | x :: r, v, h, hd => by
    unfold VS at h
    rw [List.pairwise_cons] at h
    unfold insV
    split
    · rename_i hlt
      unfold VS
      rw [List.pairwise_cons]
      refine ⟨fun y hy => ?_, insV_sorted h.2 fun y hy => hd y (by simp [hy])⟩
      rcases insV_mem.1 hy with rfl | hy
      · exact hlt
      · exact h.1 y hy
    · rename_i hlt
      have h1 : verLess v x = true := by
        cases h1 : verLess v x
        · simp only [Bool.not_eq_true] at hlt
          exact absurd (dep_total hlt h1) (hd x (by simp))
        · rfl
      unfold VS
      rw [List.pairwise_cons, List.pairwise_cons]
      refine ⟨fun y hy => ?_, h.1, h.2⟩
      rcases List.mem_cons.1 hy with rfl | hy
      · exact h1
      · exact depLess_trans h1 (h.1 y hy)
theorem place_neg {l : List Ver} {d : Dep} (h : placeOf l d < 0) : ∀ x ∈ l, x.dep ≠ d := fun x hx he => by
  obtain ⟨k, hk, rfl⟩ := mem_elt hx
  have := idxI_all h k hk
  simp [depIs] at this; exact this he
theorem place_none {l : List Ver} {d : Dep} (h : ∀ x ∈ l, x.dep ≠ d) : placeOf l d < 0 := by
  rcases Int.lt_or_le (placeOf l d) 0 with hn | hn
  · exact hn
  · obtain ⟨k, hk, hp⟩ := idxI_any hn
    simp [depIs] at hp
    exact absurd hp (h _ (elt_mem hk))
theorem place_hit {l : List Ver} {d : Dep} (h : 0 ≤ placeOf l d) : (placeOf l d).toNat < l.length ∧ (elt l (placeOf l d).toNat).dep = d := by
  unfold placeOf idxI at *
  split at h
  · rename_i k hk
    obtain ⟨h1, h2, _⟩ := List.findIdx?_eq_some_iff_getElem.1 hk
    refine ⟨by simpa using h1, ?_⟩
    simp only [Int.toNat_natCast]
    simpa [elt, h1, depIs] using h2
  · omega
def addV (out : List Ver) (v : Ver) : List Ver := if placeOf out v.dep < 0 then insV out v else out
theorem addV_len (out : List Ver) (v : Ver) : (addV out v).length ≤ out.length + 1 := by
  unfold addV; split
  · rw [insV_len]; exact Nat.le_refl _
  · omega
theorem adds_len : ∀ (l out : List Ver), (l.foldl addV out).length ≤ out.length + l.length
  | [], _ => by simp
  | v :: r, out => by
    have := adds_len r (addV out v)
    have h2 := addV_len out v
    simp at this ⊢; omega
theorem adds_take {l out : List Ver} {k : Nat} (h : k < l.length) : (l.take (k + 1)).foldl addV out = addV ((l.take k).foldl addV out) (elt l k) := by
  rw [take_elt h, List.foldl_append]; rfl
theorem pairwise_adj {α : Type} [Inhabited α] {R : α → α → Prop} (tr : ∀ {a b d}, R a b → R b d → R a d) {l : List α} (h : ∀ i, 0 < i → i < l.length → R (elt l (i - 1)) (elt l i)) : l.Pairwise R := by
  rw [List.pairwise_iff_getElem]
  intro i j hi hj hij
  have e : ∀ k (hk : k < l.length), l[k] = elt l k := fun k hk => by simp [elt, hk]
  rw [e i hi, e j hj]
  obtain ⟨n, rfl⟩ : ∃ n, j = i + 1 + n := ⟨j - (i + 1), by omega⟩
  clear hij
  induction n with
  | zero => have := h (i + 1) (by omega) hj; simpa using this
  | succ n ih =>
    have h1 := ih (by omega)
    have h2 := h (i + 1 + (n + 1)) (by omega) hj
    rw [show i + 1 + (n + 1) - 1 = i + 1 + n from by omega] at h2
    exact tr h1 h2
theorem chain_all {l : List Ver} (h : chainOk l = true) : ∀ x ∈ l, verOk x = true := fun x hx => by
  obtain ⟨k, hk, rfl⟩ := mem_elt hx
  exact chain_at h hk
theorem chain_len {l : List Ver} (h : chainOk l = true) : l.length ≤ 80 := by
  unfold chainOk at h
  rw [Bool.and_eq_true, decide_eq_true_eq] at h; exact h.1
def atV (l : List Ver) (d : Dep) : Option Ver := if 0 ≤ placeOf l d then some (elt l (placeOf l d).toNat) else none
structure InsAt (l : List Ver) (v : Ver) (k : Nat) (done : Bool) (out : List Ver) : Prop where
  hk : k ≤ l.length
  eq : insV2 l v = if done then out ++ l.drop k else out ++ insV2 (l.drop k) v
  len : out.length ≤ k + done.toNat
theorem InsAt.zero (l : List Ver) (v : Ver) : InsAt l v 0 false [] := ⟨Nat.zero_le _, by simp, by simp⟩
section
variable {l : List Ver} {v : Ver} {k : Nat} {out : List Ver} {done : Bool}
theorem InsAt.before (hp : InsAt l v k false out) (h : k < l.length) (he : verLess v (elt l k) = true) : InsAt l v (k + 1) true ((out ++ [v]) ++ [elt l k]) := by
  refine ⟨h, ?_, by have := hp.len; simp at this ⊢; omega⟩
  have := hp.eq
  rw [drop_elt h] at this
  simp only [insV2, if_pos he] at this
  rw [this]; simp
theorem InsAt.step (hp : InsAt l v k done out) (h : k < l.length) (he : done = true ∨ verLess v (elt l k) = false) : InsAt l v (k + 1) done (out ++ [elt l k]) := by
  refine ⟨h, ?_, by have := hp.len; simp; omega⟩
  have := hp.eq
  cases done
  · rw [drop_elt h] at this
    have he : verLess v (elt l k) = false := he.resolve_left (by simp)
    simp only [insV2, he] at this
    rw [this]; simp
  · simp only [if_true] at this ⊢
    rw [this, drop_elt h]; simp
theorem InsAt.endT (hp : InsAt l v k true out) (h : l.length ≤ k) : out = insV2 l v := by
  have := hp.eq
  rw [List.drop_eq_nil_of_le h] at this; simpa using this.symm
theorem InsAt.endF (hp : InsAt l v k false out) (h : l.length ≤ k) : out ++ [v] = insV2 l v := by
  have := hp.eq
  rw [List.drop_eq_nil_of_le h] at this; simpa [insV2] using this.symm
end
def equalIn (l : List Ver) (v : Ver) : Bool := decide (0 ≤ placeOf l v.dep) && verIs (elt l (placeOf l v.dep).toNat) v
theorem step_test3 (l : List Call) (time : Int) (k : Nat) : (!callOk (elt l k) time || (decide (0 < (k : Int)) && decide ((elt l k).begin_ ≤ (elt l ((k : Int) - 1).toNat).begin_))) = !callStep l time k := step_test l time k
theorem clash_yes {d q : Call} (h : d.client = q.client) : (!d.over && ((d.end_ == 0) || decide (q.begin_ ≤ d.end_))) = clash d q := by
  unfold clash; rw [h]; simp
theorem clash_no {d q : Call} (h : ¬ d.client = q.client) : clash d q = false := by
  unfold clash; simp [h]
theorem callAt_eq (l : List Call) (time : Int) (k : Nat) : callAt l time k = ((callStep l time k && ((elt l k).num == cntB l (k + 1) (elt l k).client)) && allN k fun j => !clash (elt l j) (elt l k)) := rfl
set_option maxHeartbeats 4000000 in
theorem c_spec_l41CallsOk (l : List Call) (time : Int) (ht : time ≤ 4611686018427387904) (hgl : ∀ q ∈ l, q.got.length ≤ 1048576) :
    Fn Tryz.prog 110 [callsAV l, AV.int time] (AV.bool (callsOk l time)) := by
 refine Fn.intro 98 Tryz.func110 rfl Tryz.ntmps110 rfl (by kernel_rfl) (fun W I a hs => ?_)
 have hle := hs.lenleM (t := 0) rfl
 refine sr <| hs.sc fun hs => nn <| wp_seq <| sr <| hs.m fun hs => ?_
 refine hs.o .ln fun hs => ?_
 refine hs.o .gtrc fun hs => nn ?_
 refine hs.cd (fun hb1 => ?_) fun hb1 => ?_
 ·try simp only [B] at hb1
  refine sr <| hs.sc fun hs => nn <| wp_ret <| then_r ?_
  refine hs.rt ?_
  exact ret_bool (by unfold callsOk; rw [len20' hb1]; simp)
 ·try simp only [B] at hb1
  refine wp_skip <| then_n <| wp_seq <| sr <| hs.sc fun hs => nn <| wp_block ?_
  refine St.lo (σ := Nat) (run 4 4 (run 87 11 [])) ⟨fun k => [(5, AV.int k)], fun k => [], fun k => k ≤ l.length ∧ ∀ i, i < k → (callAt l time) i = true⟩ (fun k => l.length - k) 0 hs ?ok1 ?round1
  case ok1 => exact ⟨Nat.zero_le _, fun i hi => by omega⟩
  case round1 =>
   rintro k I a w hok hs
   obtain ⟨hk_k, hall⟩ := hok
   refine wp_seq <| sr <| hs.m fun hs => hs.m fun hs => ?_
   refine hs.o .ln fun hs => ?_
   refine hs.o .lss fun hs => nn ?_
   refine hs.cd (fun hb2 => ?_) fun hb2 => ?_
   ·try simp only [B] at hb2
    refine wp_skip <| then_n <| wp_seq <| wp_block <| wp_seq <| wp_seq <| hs.dk <| .o .mv <| .o .mv ?_
    refine .o .ix ?_
    refine .o .la ?_
    refine .o .mv <| .o (.c2 (c_spec_CallOk _ _ ht (hgl _ (elt_mem hb2)))) <| .o .nt <| .o .mv <| .q .F .mv ?_
    refine .q .F (ok_gtr .ag .c) ?_
    refine .q .F (.mx .ag) ?_
    refine .q .T2 .mv <| .q .T2 .mv ?_
    refine .q .T2 (ok_sub .ag .c (fun hg => by simp at hg; omega)) ?_
    refine .q .T2 .ix ?_
    refine .q .T2 (.fx .ag) ?_
    refine .q .T2 (.lx .ag) ?_
    refine .q .T2 .mv <| .q .T2 .mv ?_
    refine .q .T2 .ix ?_
    refine .q .T2 (.fx .ag) ?_
    refine .q .T2 (.lx .ag) ?_
    refine .q .T2 (ok_geq .ag .ag) ?_
    refine .q .F (ok_and .ag .pc .c) ?_
    refine .o .or <| .nil ?_
    intro I a w hs
    refine then_n ?_
    refine hs.cd (fun hb3 => ?_) fun hb3 => ?_
    ·rw [step_test3] at hb3; replace hb3 := nt hb3
     refine sr <| hs.sc fun hs => nn <| wp_ret <| then_r <| block_r <| then_r <| then_r <| block_r <| then_r ?_
     refine hs.rt ?_
     exact ret_bool (by unfold callsOk; rw [allN_false (f := callAt l time) hb2 (by rw [callAt_eq, hb3]; rfl)]; rfl)
    ·rw [step_test3] at hb3; replace hb3 := nf hb3
     refine wp_skip <| then_n <| sr <| hs.sc fun hs => nn <| wp_seq <| sr <| hs.sc fun hs => nn <| wp_block ?_
     refine St.lo (σ := Nat) (4 :: (run 2 6 (run 48 42 []))) ⟨fun k2 => [(7, AV.int k2), (6, AV.int (cntB l k2 (elt l k).client))], fun k2 => [], fun k2 => k2 ≤ k ∧ ∀ i, i < k2 → (fun j => !clash (elt l j) (elt l k)) i = true⟩ (fun k2 => k - k2) 0 hs ?ok2 ?round2
     case ok2 => exact ⟨Nat.zero_le _, fun i hi => by omega⟩
     case round2 =>
      rintro k2 I a w hok hs
      obtain ⟨hk_k2, hall2⟩ := hok
      refine wp_seq <| sr <| hs.m fun hs => hs.m fun hs => hs.o .lss fun hs => nn ?_
      refine hs.cd (fun hb4 => ?_) fun hb4 => ?_
      ·try simp only [B] at hb4
       refine wp_skip <| then_n <| wp_seq <| wp_block <| wp_seq <| wp_seq <| hs.dk <| .o .mv <| .o .mv ?_
       refine .o .ix ?_
       refine .o .fp <| .o .l1 <| .o .mv <| .o .mv ?_
       refine .o .ix ?_
       refine .o .fp <| .o .l1 <| .o .nei <| .nil ?_
       intro I a w hs
       refine then_n ?_
       refine hs.cd (fun hb5 => ?_) fun hb5 => ?_
       ·try simp only [B] at hb5
        refine wp_exit <| then_x <| block_hit <| then_n <| St.region <| hs.m fun hs => ?_
        refine hs.o .ad fun hs => ?_
        refine hs.s fun hs => nn ?_
        refine hs.again (k2 + 1) ?mu1 ?ok1001 (by rfl) ?env1001 (by repeat (first | exact Env.le_rfl | refine Env.le_push rfl ?_))
        case mu1 => omega
        case ok1001 => exact ⟨by omega, allN_next hall2 (by show (!clash (elt l k2) (elt l k)) = true; rw [clash_no hb5]; rfl)⟩
        case env1001 => exact (Env.le_consE rfl (by rfl) (Env.le_consE rfl (by first | exact congrArg AV.int (by rw [cntB_succ (by omega), if_neg hb5]) | exact congrArg AV.int (by rw [callAt_num (hall k2 (by omega)), show (elt l k2).client = (elt l k).client by omega])) Env.le_nil))
       ·try simp only [B] at hb5
        refine wp_skip <| then_n <| sr <| hs.m fun hs => hs.m fun hs => ?_
        refine hs.o .ix fun hs => ?_
        refine hs.o .fp fun hs => hs.o .l1 fun hs => hs.s fun hs => nn <| wp_seq <| hs.dk <| .o .mv <| .o .mv ?_
        refine .o .ix ?_
        refine .o .fp <| .o .l1 <| .o .nt <| .o .mv <| .q .T .mv <| .q .T .mv ?_
        refine .q .T .ix ?_
        refine .q .T (.fx .ag) ?_
        refine .q .T (.lx .ag) ?_
        refine .q .T (ok_eqi .ag .c) ?_
        refine .q .T (.mx .ag) ?_
        refine .q .F2 .mv <| .q .F2 .mv ?_
        refine .q .F2 .ix ?_
        refine .q .F2 (.fx .ag) ?_
        refine .q .F2 (.lx .ag) ?_
        refine .q .F2 .mv <| .q .F2 .mv ?_
        refine .q .F2 .ix ?_
        refine .q .F2 (.fx .ag) ?_
        refine .q .F2 (.lx .ag) ?_
        refine .q .F2 (ok_geq .ag .ag) ?_
        refine .q .T (ok_or .ag .c .pc) ?_
        refine .o .an <| .nil ?_
        intro I a w hs
        refine then_n ?_
        refine hs.cd (fun hb6 => ?_) fun hb6 => ?_
        ·rw [clash_yes (by omega)] at hb6
         refine sr <| hs.sc fun hs => nn <| wp_ret <| block_r <| then_r <| then_r <| block_r <| then_r <| block_r <| then_r <| then_r <| block_r <| then_r ?_
         refine hs.rt ?_
         exact ret_bool (by unfold callsOk; rw [allN_false (f := callAt l time) hb2 (by rw [callAt_eq, allN_false (f := fun j => !clash (elt l j) (elt l k)) (k := k2) (by omega) (by rw [hb6]; rfl)]; simp)]; rfl)
        ·rw [clash_yes (by omega)] at hb6
         refine wp_skip <| block_n <| then_n <| St.region <| hs.m fun hs => ?_
         refine hs.o .ad fun hs => ?_
         refine hs.s fun hs => nn ?_
         refine hs.again (k2 + 1) ?mu2 ?ok1002 (by rfl) ?env1002 (by repeat (first | exact Env.le_rfl | refine Env.le_push rfl ?_))
         case mu2 => omega
         case ok1002 => exact ⟨by omega, allN_next hall2 (by show (!clash (elt l k2) (elt l k)) = true; rw [hb6]; rfl)⟩
         case env1002 => exact (Env.le_consE rfl (by rfl) (Env.le_consE rfl (by first | exact congrArg AV.int (by rw [cntB_succ (by omega), if_neg hb5]) | exact congrArg AV.int (by rw [callAt_num (hall k2 (by omega)), show (elt l k2).client = (elt l k).client by omega])) Env.le_nil))
      ·try simp only [B] at hb4
       refine wp_exit <| then_x <| then_x <| block_hit <| then_n <| sr <| hs.m fun hs => hs.m fun hs => ?_
       refine hs.o .ix fun hs => ?_
       refine hs.o .fp fun hs => hs.o .l1 fun hs => hs.m fun hs => ?_
       refine hs.o (ok_add .tt .c (fun _ => by have := cntB_le l k2 (elt l k).client; omega)) fun hs => ?_
       refine hs.o .nei fun hs => nn ?_
       refine hs.cd (fun hb7 => ?_) fun hb7 => ?_
       ·try simp only [B] at hb7
        refine sr <| hs.sc fun hs => nn <| wp_ret <| block_r <| then_r <| then_r <| block_r <| then_r ?_
        refine hs.rt ?_
        exact ret_bool (by unfold callsOk; rw [allN_false (f := callAt l time) hb2 (by rw [callAt_eq, cntB_succ hb2, if_pos rfl, show ((elt l k).num == cntB l k (elt l k).client + 1) = false by (rw [show k2 = k by omega] at hb7; simpa using hb7)]; simp)]; rfl)
       ·try simp only [B] at hb7
        refine wp_skip <| block_n <| then_n <| St.region <| hs.m fun hs => ?_
        refine hs.o .ad fun hs => ?_
        refine hs.s fun hs => nn ?_
        exact hs.ag (k + 1) (⟨by omega, allN_next hall (by rw [callAt_eq, hb3, allN_true hall2 (by omega)]; simp only [Bool.true_and, Bool.and_true, beq_iff_eq]; rw [cntB_succ hb2, if_pos rfl]; rw [show k2 = k by omega] at hb7; omega)⟩)
   ·try simp only [B] at hb2
    refine wp_exit <| then_x <| then_x <| block_hit <| then_n <| sr <| hs.sc fun hs => nn <| wp_ret ?_
    refine hs.rt ?_
    exact ret_bool (by unfold callsOk; rw [allN_true hall (by omega)]; simp; omega)
theorem chain_deps {l : List Ver} (h : chainOk l = true) : ∀ v ∈ l, v.deps.length ≤ 6 := fun v hv => depsOk_len6 (verOk_parts (chain_all h v hv)).2.2
theorem debts_len {l : List Dep} (h : debtsOk l = true) : l.length ≤ 80 := by
  unfold debtsOk at h
  rw [Bool.and_eq_true, decide_eq_true_eq] at h; exact h.1
set_option maxHeartbeats 4000000 in
theorem c_spec_l3Put (l : List Ver) (v : Ver) (h : l.length ≤ 1048575) (hd : ∀ u ∈ l, u.deps.length ≤ 1048576) (hv : v.deps.length ≤ 1048576) :
    Fn Tryz.prog 170 [versAV l, v.av] (versAV (insV2 l v)) := by
 refine Fn.intro 46 Tryz.func170 rfl Tryz.ntmps170 rfl (by kernel_rfl) (fun W I a hs => ?_)
 refine sr <| hs.o .bp fun hs => hs.sc fun hs => nn <| sr ?_
 refine hs.lit0 rfl un86 ty173 (by decide) fun b8 I a w hs => ?_
 refine hs.s fun hs => nn <| sr <| hs.sc fun hs => nn <| wp_seq <| sr <| hs.sc fun hs => nn <| wp_block ?_
 refine St.lo (σ := Nat × Bool × List Ver × Value) (run 3 5 (run 29 9 [])) ⟨fun ⟨k, done, out, u⟩ => [(7, AV.int k), (6, AV.bool done), (5, AV.val u)], fun ⟨k, done, out, u⟩ => [Own.row u 173 7 (out.map Ver.cells)], fun ⟨k, done, out, u⟩ => InsAt l v k done out⟩ (fun ⟨k, done, out, u⟩ => l.length - k) (0, false, [], .slice (some ⟨b8, 0, none⟩) 0 0) hs ?ok1 ?round1
 case ok1 => exact InsAt.zero l v
 case round1 =>
  rintro ⟨k, done, out, u⟩ I a w hok hs
  have hp : InsAt l v k done out := hok
  have hk := hp.hk
  have hol := hp.len
  have hdn : done.toNat ≤ 1 := by cases done <;> simp
  change St _ _ [Own.row u 173 7 (out.map Ver.cells)] _ _ _ at hs
  refine wp_seq <| sr <| hs.m fun hs => hs.m fun hs => ?_
  refine hs.o .ln fun hs => ?_
  refine hs.o .lss fun hs => nn ?_
  refine hs.cd (fun hb1 => ?_) fun hb1 => ?_
  ·try simp only [B] at hb1
   refine wp_skip <| then_n <| wp_seq <| wp_block <| wp_seq <| wp_seq <| hs.dk <| .o .mv <| .o .nt <| .o .mv ?_
   refine .q .T .la ?_
   refine .q .T .mv <| .q .T .mv ?_
   refine .q .T .ix ?_
   refine .q .T .la ?_
   refine .q .T (.cl (c_spec_l3Less ..)) ?_
   refine .o .an <| .nil ?_
   intro I a w hs
   refine then_n ?_
   refine hs.cd (fun hb2 => ?_) fun hb2 => ?_
   ·try simp only [B] at hb2
    refine sr <| hs.m fun hs => ?_
    refine hs.o .la fun hs => ?_
    refine hs.o (.c1 (c_spec_l2Copy v hv)) fun hs => ?_
    refine hs.o (.li [v.cells] zo173 (.u .nil)) fun hs => ?_
    refine hs.append 0 rfl un86 ty173 rfl .tt .r rfl (by simp; omega) fun v29 a w hs => ?_
    rw [snocD] at hs
    refine hs.s fun hs => nn <| St.region <| hs.sc fun hs => nn <| St.region <| hs.m fun hs => hs.m fun hs => hs.m fun hs => ?_
    refine hs.o .ix fun hs => ?_
    refine hs.o .la fun hs => ?_
    refine hs.o (.c1 (c_spec_l2Copy (elt l k) (hd _ (elt_mem hb1)))) fun hs => ?_
    refine hs.o (.li [(elt l k).cells] zo173 (.u .nil)) fun hs => ?_
    refine hs.append 0 rfl un86 ty173 rfl .tt .r rfl (by simp; omega) fun v37 a w hs => ?_
    rw [snocD] at hs
    refine hs.s fun hs => wpList_nil <| block_n <| then_n <| St.region <| hs.m fun hs => ?_
    refine hs.o .ad fun hs => ?_
    refine hs.s fun hs => nn ?_
    exact hs.ag (k + 1, true, (out ++ [v]) ++ [elt l k], v37) (by obtain ⟨h1, h2⟩ := hb2; subst h1; exact hp.before hb1 h2)
   ·try simp only [B] at hb2
    refine wp_skip <| then_n <| St.region <| hs.m fun hs => hs.m fun hs => hs.m fun hs => ?_
    refine hs.o .ix fun hs => ?_
    refine hs.o .la fun hs => ?_
    refine hs.o (.c1 (c_spec_l2Copy (elt l k) (hd _ (elt_mem hb1)))) fun hs => ?_
    refine hs.o (.li [(elt l k).cells] zo173 (.u .nil)) fun hs => ?_
    refine hs.append 0 rfl un86 ty173 rfl .tt .r rfl (by simp; omega) fun v37 a w hs => ?_
    rw [snocD] at hs
    refine hs.s fun hs => wpList_nil <| block_n <| then_n <| St.region <| hs.m fun hs => ?_
    refine hs.o .ad fun hs => ?_
    refine hs.s fun hs => nn ?_
    exact hs.ag (k + 1, done, out ++ [elt l k], v37) (hp.step hb1 (by simpa using hb2))
  ·try simp only [B] at hb1
   refine wp_exit <| then_x <| then_x <| block_hit <| then_n <| wp_seq <| sr <| hs.m fun hs => hs.o .nt fun hs => nn ?_
   refine hs.cd (fun hb3 => ?_) fun hb3 => ?_
   ·try simp only [B] at hb3
    refine St.region <| hs.m fun hs => ?_
    refine hs.o .la fun hs => ?_
    refine hs.o (.c1 (c_spec_l2Copy v hv)) fun hs => ?_
    refine hs.o (.li [v.cells] zo173 (.u .nil)) fun hs => ?_
    refine hs.append 0 rfl un86 ty173 rfl .tt .r rfl (by simp; omega) fun v44 a w hs => ?_
    rw [snocD] at hs
    refine hs.s fun hs => nn <| sr <| hs.m fun hs => hs.s fun hs => nn <| wp_ret ?_
    obtain ⟨I, hs, hf⟩ := hs.freezeRow 0 rfl
    have hs := hs.upd (t := 4) rfl hf; clear hf
    refine hs.rt ?_
    exact congrArg (AV.rows 7) (by subst hb3; exact hp.endF (by omega) ▸ rfl)
   ·try simp only [B] at hb3
    refine wp_skip <| then_n <| sr <| hs.m fun hs => hs.s fun hs => nn <| wp_ret ?_
    obtain ⟨I, hs, hf⟩ := hs.freezeRow 0 rfl
    have hs := hs.upd (t := 4) rfl hf; clear hf
    refine hs.rt ?_
    exact congrArg (AV.rows 7) (by subst hb3; rw [hp.endT (by omega)])
end Go.Proofs.YtkoebplikhlapaaGreatDoor
