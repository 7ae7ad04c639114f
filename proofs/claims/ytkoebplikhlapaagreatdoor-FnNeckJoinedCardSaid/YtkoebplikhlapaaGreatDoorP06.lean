/- Part 6: rules of the proofs, contracts of functions, plain facts. -/
import Derived.Test.YtkoebplikhlapaaGreatDoorP03
set_option linter.unusedVariables false
set_option linter.unusedSimpArgs false
namespace Go.Proofs.YtkoebplikhlapaaGreatDoor
open Go Go.RowKit
theorem OwnsAll.perm {base : Nat → Prop} {I : Im} {w : World} {H H' : List Own} (h : OwnsAll base I w H) (hp : H.Perm H') : OwnsAll base I w H' :=
  ⟨fun o ho => h.all o (hp.mem_iff.2 ho), (hp.filterMap Own.blk).nodup_iff.1 h.nodup⟩
theorem OwnsAll.left {base : Nat → Prop} {I : Im} {w : World} {H K : List Own} (h : OwnsAll base I w (H ++ K)) : OwnsAll base I w H :=
  ⟨fun o ho => h.all o (List.mem_append_left _ ho), h.nodup.sublist ((List.sublist_append_left H K).filterMap _)⟩
abbrev Mk := Option (Value → Own)
def OpRunR (P : Program) (H : List Own) (ops : Array Oper) (Γ : Env) (o : Oper) (x : AV) (r : Mk) : Prop :=
  ∀ (base : Nat → Prop) (I : Im) (a : Act) (w : World) (K : Act → World → Prop) (Q : Exit → Act → World → Prop), EnvOk I a Γ → Models w I → OwnsAll base I w H →
    (∀ v I' w', x.h I' v → Step I w I' w' → (∀ f, r = some f → (f v).ok I' w' ∧ ∀ b, (f v).blk = some b → w.heap.size ≤ b ∧ I' b = none ∧ b < w'.heap.size) → K (a.put o.dst v) w') →
    if Region.wanted o (yielded ops a.tmps) then o.wp P a w K Q else K (a.put o.dst undef) w
theorem OpRun.r {P : Program} {H : List Own} {ops : Array Oper} {Γ : Env} {o : Oper} {x : AV} (h : OpRun P H ops Γ o x) : OpRunR P H ops Γ o x none :=
  fun base I a w K Q he hm hw k => h base I a w K Q he hm hw fun v I' w' hx hs => k v I' w' hx hs fun f e => by cases e
def made (S : Nat → Bool) (a : Act) : Nat → List Oper → List (AV × Mk) → List Own
  | k, o :: os, (_, some f) :: xs => bif S k then f (a.tmps.getD (o.dst.getD 0) undef) :: made S a (k + 1) os xs else made S a (k + 1) os xs
  | k, _ :: os, (_, none) :: xs => made S a (k + 1) os xs
  | _, _, _ => []
theorem made_congr {S : Nat → Bool} {a a' : Act} : ∀ {k : Nat} {os : List Oper} {xs : List (AV × Mk)}, (∀ (i : Nat) (o : Oper) (x : AV) (f : Value → Own), os[i]? = some o → xs[i]? = some (x, some f) → S (k + i) = true → a.tmps.getD (o.dst.getD 0) undef = a'.tmps.getD (o.dst.getD 0) undef) → made S a k os xs = made S a' k os xs
  | _, [], _, _ => by unfold made; rfl
  | _, _ :: _, [], _ => by simp [made]
  | k, o :: os, (x, some f) :: xs, h => by
    have ih := made_congr (S := S) (a := a) (a' := a') (k := k + 1) (os := os) (xs := xs) fun i o' x' f' h1 h2 h3 => h (i + 1) o' x' f' (by simpa using h1) (by simpa using h2) (by rw [show k + (i + 1) = k + 1 + i from by omega]; exact h3)
    simp only [made]
    cases hS : S k
    · exact ih
    · rw [h 0 o x f rfl rfl hS, ih]
  | k, o :: os, (x, none) :: xs, h => by
    simp only [made]
    exact made_congr fun i o' x' f' h1 h2 h3 => h (i + 1) o' x' f' (by simpa using h1) (by simpa using h2) (by rw [show k + (i + 1) = k + 1 + i from by omega]; exact h3)
theorem made_same {S S' : Nat → Bool} {a : Act} : ∀ {k : Nat} {os : List Oper} {xs : List (AV × Mk)}, (∀ (i : Nat) (o : Oper) (x : AV) (f : Value → Own), os[i]? = some o → xs[i]? = some (x, some f) → S (k + i) = S' (k + i)) → made S a k os xs = made S' a k os xs
  | _, [], _, _ => by unfold made; rfl
  | _, _ :: _, [], _ => by simp [made]
  | k, o :: os, (x, some f) :: xs, h => by
    simp only [made]
    rw [show S k = S' k from h 0 o x f rfl rfl, made_same (S := S) (S' := S') (k := k + 1) (os := os) (xs := xs) fun i o' x' f' h1 h2 => by
      have := h (i + 1) o' x' f' (by simpa using h1) (by simpa using h2)
      rw [show k + 1 + i = k + (i + 1) from by omega]; exact this]
  | k, o :: os, (x, none) :: xs, h => by
    simp only [made]
    exact made_same fun i o' x' f' h1 h2 => by
      have := h (i + 1) o' x' f' (by simpa using h1) (by simpa using h2)
      rw [show k + 1 + i = k + (i + 1) from by omega]; exact this
theorem made_add {S : Nat → Bool} {a : Act} : ∀ {k i : Nat} {os : List Oper} {xs : List (AV × Mk)} {o : Oper} {x : AV} {f : Value → Own}, os[i]? = some o → xs[i]? = some (x, some f) → S (k + i) = false →
    (f (a.tmps.getD (o.dst.getD 0) undef) :: made S a k os xs).Perm (made (fun j => if j = k + i then true else S j) a k os xs)
  | k, 0, o' :: os, (x', m) :: xs, o, x, f, h1, h2, h3 => by
    simp at h1 h2; obtain ⟨rfl, rfl⟩ := h2; subst h1
    simp only [made]
    have h3' : S k = false := h3
    rw [h3']
    simp only [Nat.add_zero, if_true, cond_true, cond_false]
    rw [made_same (S := S) (S' := fun j => if j = k then true else S j) fun i o' x' f' _ _ => by rw [if_neg (by omega)]]
  | k, i + 1, o' :: os, (x', some f') :: xs, o, x, f, h1, h2, h3 => by
    have ih := made_add (S := S) (a := a) (k := k + 1) (i := i) (os := os) (xs := xs) (o := o) (x := x) (f := f) (by simpa using h1) (by simpa using h2) (by rw [show k + 1 + i = k + (i + 1) from by omega]; exact h3)
    rw [show k + 1 + i = k + (i + 1) from by omega] at ih
    simp only [made]
    rw [if_neg (by omega)]
    cases S k
    · exact ih
    · exact (List.Perm.swap _ _ _).trans (ih.cons _)
  | k, i + 1, o' :: os, (x', none) :: xs, o, x, f, h1, h2, h3 => by
    have ih := made_add (S := S) (a := a) (k := k + 1) (i := i) (os := os) (xs := xs) (o := o) (x := x) (f := f) (by simpa using h1) (by simpa using h2) (by rw [show k + 1 + i = k + (i + 1) from by omega]; exact h3)
    rw [show k + 1 + i = k + (i + 1) from by omega] at ih
    simp only [made]
    exact ih
  | _, _, [], _, _, _, _, h1, _, _ => by simp at h1
  | _, _, _ :: _, [], _, _, _, _, h2, _ => by simp at h2
def RunOkR (P : Program) (H : List Own) (ops : Array Oper) : Env → List Oper → List (AV × Mk) → Prop
  | _, [], [] => True
  | Γ, o :: os, x :: xs => OpRunR P H ops (Γ.only (o.looksAt ops)) o x.1 x.2 ∧ RunOkR P H ops ((o.dst.getD 0, x.1) :: Γ) os xs
  | _, _, _ => False
theorem RunOkR.at {P : Program} {H : List Own} {ops : Array Oper} {Γ0 : Env} : ∀ (os : List Oper) (xs : List (AV × Mk)) (k : Nat) (done : List Ent), RunOkR P H ops (envOf done ++ Γ0) os xs → (∀ e ∈ done, e.1 < k) →
    os.length = xs.length ∧ ∀ i o x, os[i]? = some o → xs[i]? = some x → OpRunR P H ops ((envOf (((ents k os (xs.map (·.1))).reverse ++ done).filter fun e => decide (e.1 < k + i)) ++ Γ0).only (o.looksAt ops)) o x.1 x.2
  | [], [], _, _, _, _ => ⟨rfl, fun i o x h => by simp at h⟩
  | o :: os, x :: xs, k, done, h, hd => by
    obtain ⟨h1, h2⟩ := h
    have ih := RunOkR.at os xs (k + 1) ((k, o.dst.getD 0, x.1) :: done) h2 (fun e he => by
      rcases List.mem_cons.1 he with rfl | he
      · simp
      · have := hd e he; omega)
    refine ⟨by simp [ih.1], fun i o' x' ho hx => ?_⟩
    have hre : (ents k (o :: os) ((x :: xs).map (·.1))).reverse ++ done = (ents (k + 1) os (xs.map (·.1))).reverse ++ ((k, o.dst.getD 0, x.1) :: done) := by simp [ents]
    rw [hre]
    cases i with
    | zero =>
      simp at ho hx; subst ho hx
      have hf : ((ents (k + 1) os (xs.map (·.1))).reverse ++ ((k, o.dst.getD 0, x.1) :: done)).filter (fun e => decide (e.1 < k + 0)) = done := by
        rw [List.filter_append]
        have e1 : (ents (k + 1) os (xs.map (·.1))).reverse.filter (fun e => decide (e.1 < k + 0)) = [] := by
          rw [List.filter_eq_nil_iff]
          intro e he
          have := (ents_sorted (k + 1) os (xs.map (·.1))).2 e (List.mem_reverse.1 he)
          simp; omega
        rw [e1, List.filter_cons]
        simp only [Nat.add_zero, Nat.lt_irrefl, decide_false, Bool.false_eq_true, if_false, List.nil_append]
        rw [List.filter_eq_self]
        intro e he
        simpa using hd e he
      rw [hf]; exact h1
    | succ i =>
      have := ih.2 i o' x' (by simpa using ho) (by simpa using hx)
      rw [show k + (i + 1) = k + 1 + i from by omega]
      exact this
  | [], _ :: _, _, _, h, _ => h.elim
  | _ :: _, [], _, _, h, _ => h.elim
def drawChk2 (pre tail : List Oper) : Bool :=
  let l := pre ++ tail
  let C := cloAcc [] l
  let p := pre.length
  (l.zipIdx.all fun (o, i) => (o.after.toList.all fun e => !Region.binds .any e || Nat.blt e.on i)) &&
  (pre.zipIdx.all fun (o, i) => o.dst.isSome &&
    ((slotsOf l.toArray o).all fun t => pre.zipIdx.all fun (o', j) => Nat.beq i j || !(o'.dst == some t) || (if j < i then (C.getD i []).contains j else (C.getD j []).contains i)) &&
    (pre.zipIdx.all fun (o', j) => Nat.beq i j || !(o'.dst == o.dst))) &&
  (List.range tail.length).all fun i => (List.range (p + i)).all fun j => (C.getD (p + i) []).contains j
theorem chk2_edge {pre tail : List Oper} (h : drawChk2 pre tail = true) {i : Nat} {o : Oper} (ho : (pre ++ tail)[i]? = some o) : ∀ e ∈ o.after.toList, Region.binds .any e = true → e.on < i := fun e he hb => by
  simp only [drawChk2, List.all_eq_true, Bool.and_eq_true] at h
  have hm : (o, i) ∈ (pre ++ tail).zipIdx := by rw [List.mem_zipIdx_iff_getElem?]; exact ho
  have := h.1.1 _ hm e he
  rw [hb] at this
  simpa using this
theorem chk2_pre {pre tail : List Oper} (h : drawChk2 pre tail = true) {i : Nat} {o : Oper} (ho : pre[i]? = some o) :
    (∃ d, o.dst = some d) ∧ (∀ t ∈ slotsOf (pre ++ tail).toArray o, ∀ j o', pre[j]? = some o' → i ≠ j → o'.dst = some t → if j < i then j ∈ (cloAcc [] (pre ++ tail)).getD i [] else i ∈ (cloAcc [] (pre ++ tail)).getD j []) ∧
    ∀ j o', pre[j]? = some o' → i ≠ j → o'.dst ≠ o.dst := by
  simp only [drawChk2, List.all_eq_true, Bool.and_eq_true] at h
  have hm : (o, i) ∈ pre.zipIdx := by rw [List.mem_zipIdx_iff_getElem?]; exact ho
  obtain ⟨⟨h1, h3⟩, h4⟩ := h.1.2 _ hm
  have hb : ∀ j, i ≠ j → Nat.beq i j = false := fun j hne => by
    cases hb : Nat.beq i j with
    | false => rfl
    | true => exact absurd (Nat.eq_of_beq_eq_true hb) hne
  refine ⟨Option.isSome_iff_exists.1 h1, fun t ht j o' ho' hne hd => ?_, fun j o' ho' hne hd => ?_⟩
  · have hm' : (o', j) ∈ pre.zipIdx := by rw [List.mem_zipIdx_iff_getElem?]; exact ho'
    have := h3 t ht _ hm'
    simp only [hb j hne, hd, Bool.false_or] at this
    have h5 : (!(some t == some t)) = false := by simp
    rw [h5, Bool.false_or] at this
    split
    · rename_i hlt; rw [if_pos hlt] at this; simpa using this
    · rename_i hlt; rw [if_neg hlt] at this; simpa using this
  · have hm' : (o', j) ∈ pre.zipIdx := by rw [List.mem_zipIdx_iff_getElem?]; exact ho'
    have := h4 _ hm'
    simp only [hb j hne, hd, Bool.false_or] at this
    simp at this
theorem chk2_tail {pre tail : List Oper} (h : drawChk2 pre tail = true) {i j : Nat} (hi : pre.length ≤ i) (hi2 : i < (pre ++ tail).length) (hj : j < i) : j ∈ (cloAcc [] (pre ++ tail)).getD i [] := by
  simp only [drawChk2, List.all_eq_true, Bool.and_eq_true] at h
  have := h.2 (i - pre.length) (by simp at hi2 ⊢; omega) j (by simp; omega)
  rw [show pre.length + (i - pre.length) = i from by omega] at this
  simpa using this
section
variable {P : Program} {c : Ctx} {I : Im} {H : List Own} {Γ : Env} {a : Act} {w : World} {Q : Exit → Act → World → Prop}
theorem getD_irr {listed : Array Bool} {i : Nat} (h : i < listed.size) : listed.getD i true = listed.getD i false := by simp [h]
theorem ready_before {pre tail : List Oper} (hchk : drawChk2 pre tail = true) {listed : Array Bool} (hsz : listed.size = (pre ++ tail).length)
    (hcl : ∀ (i : Nat) (o : Oper), (pre ++ tail)[i]? = some o → listed.getD i false = true → ∀ e ∈ o.after.toList, Region.binds .any e = true → listed.getD e.on false = true) {i : Nat} {o : Oper} (ho : (pre ++ tail)[i]? = some o)
    (h3 : ∀ e ∈ o.after.toList, Region.binds .any e = true → listed.getD e.on false = true) : ∀ j, j ≠ i → j ∈ (cloAcc [] (pre ++ tail)).getD i [] → listed.getD j false = true := fun j hji hj => by
  have hlt : i < (pre ++ tail).length := (List.getElem?_eq_some_iff.1 ho).1
  have hlisted : ∀ j, (listed.setIfInBounds i true).getD j false = if j = i then true else listed.getD j false := fun j => getD_set (by omega) false
  have hclo' := cloAcc_spec (S := fun j => (listed.setIfInBounds i true).getD j false) (pre ++ tail) [] (fun i k hk => by simp at hk) (fun i' o' ho' hi' e he hb => by
    have hi2 : (listed.setIfInBounds i true).getD i' false = true := by simpa using hi'
    show (listed.setIfInBounds i true).getD e.on false = true
    rw [hlisted] at hi2 ⊢
    split
    · rfl
    · split at hi2
      · rename_i hii; subst hii
        rw [ho] at ho'; cases ho'
        exact h3 e he hb
      · exact hcl i' o' ho' hi2 e he hb)
  have h' := hclo' i j hj (by show (listed.setIfInBounds i true).getD i false = true; rw [hlisted]; simp)
  have h'' : (listed.setIfInBounds i true).getD j false = true := h'
  rwa [hlisted, if_neg hji] at h''
theorem tail_main {pre tail : List Oper} (hchk : drawChk2 pre tail = true) : ∀ (m j : Nat) (listed : Array Bool) (fuel : Nat) (a : Act) (w : World), (pre ++ tail).length - j = m → pre.length ≤ j → j ≤ (pre ++ tail).length → m ≤ fuel → listed.size = (pre ++ tail).length →
    (∀ i, i < (pre ++ tail).length → (listed.getD i false = true ↔ i < j)) → wpList P (pre ++ tail).toArray Q ((pre ++ tail).drop j) a w → wpAny P .any (pre ++ tail).toArray Q fuel listed a w := by
  intro m
  induction m with
  | zero =>
    intro j listed fuel a w hm hp hj hf hsz hl h
    have hj' : j = (pre ++ tail).length := by omega
    have hdr : (pre ++ tail).drop j = [] := by rw [hj']; simp
    rw [hdr] at h
    have hready : Region.ready .any (pre ++ tail).toArray listed = [] := by
      rw [List.eq_nil_iff_forall_not_mem]
      intro i hi
      obtain ⟨h1, o, h2, _⟩ := mem_ready.1 hi
      have hlt : i < (pre ++ tail).length := by have := (Array.getElem?_eq_some_iff.1 h2).1; simpa using this
      have h4 := (hl i hlt).2 (by omega)
      have h5 : listed.getD i true = listed.getD i false := getD_irr (by omega)
      rw [h5, h4] at h1; cases h1
    cases fuel with
    | zero => exact ⟨hready, h⟩
    | succ fuel => exact ⟨fun _ => h, fun i hi => by rw [hready] at hi; cases hi⟩
  | succ m ih =>
    intro j listed fuel a w hm hp hj hf hsz hl h
    have hjl : j < (pre ++ tail).length := by omega
    cases fuel with
    | zero => omega
    | succ fuel =>
      have hcl : ∀ (i : Nat) (o : Oper), (pre ++ tail)[i]? = some o → listed.getD i false = true → ∀ e ∈ o.after.toList, Region.binds .any e = true → listed.getD e.on false = true := fun i o ho hi e he hb => by
        have hlt : i < (pre ++ tail).length := (List.getElem?_eq_some_iff.1 ho).1
        have h1 := (hl i hlt).1 hi
        have h2 := chk2_edge hchk ho e he hb
        exact (hl e.on (by omega)).2 (by omega)
      have hd : ∀ i, i < (pre ++ tail).length → listed.getD i true = listed.getD i false := fun i hi => getD_irr (by omega)
      have honly : ∀ i ∈ Region.ready .any (pre ++ tail).toArray listed, i = j := fun i hi => by
        obtain ⟨h1, o, h2, h3⟩ := mem_ready.1 hi
        have hlt : i < (pre ++ tail).length := by have := (Array.getElem?_eq_some_iff.1 h2).1; simpa using this
        have ho : (pre ++ tail)[i]? = some o := by simpa using h2
        have hnl : ¬ i < j := fun h' => by rw [hd i hlt, (hl i hlt).2 h'] at h1; cases h1
        by_cases hij : i = j
        · exact hij
        · have hb := ready_before hchk hsz hcl ho (fun e he hb => h3 e (by simpa using he) hb) j (fun e => hij e.symm) (chk2_tail hchk (by omega) hlt (by omega))
          have := (hl j hjl).1 hb
          omega
      refine ⟨fun hr => ?_, fun i hi => ?_⟩
      · exfalso
        have : j ∈ Region.ready .any (pre ++ tail).toArray listed := by
          refine mem_ready.2 ⟨?_, (pre ++ tail)[j], by simp [hjl], fun e he hb => ?_⟩
          · rw [hd j hjl]
            cases hb : listed.getD j false with
            | false => rfl
            | true => have := (hl j hjl).1 hb; omega
          · have h2 := chk2_edge hchk (i := j) (o := (pre ++ tail)[j]) (by simp [hjl]) e (by simpa using he) hb
            exact (hl e.on (by omega)).2 h2
        rw [hr] at this; cases this
      · obtain rfl := honly i hi
        have hdr : (pre ++ tail).drop i = (pre ++ tail)[i] :: (pre ++ tail).drop (i + 1) := List.drop_eq_getElem_cons hjl
        rw [hdr] at h
        have hrest : ∀ a w, wpList P (pre ++ tail).toArray Q ((pre ++ tail).drop (i + 1)) a w → wpAny P .any (pre ++ tail).toArray Q fuel (listed.setIfInBounds i true) a w := fun a w h' =>
          ih (i + 1) (listed.setIfInBounds i true) fuel a w (by omega) (by omega) (by omega) (by omega) (by simpa using hsz) (fun k hk => by
            rw [getD_set (by omega)]
            split
            · rename_i e; subst e; simp
            · rename_i e; rw [hl k hk]; omega) h'
        unfold wpOp
        have hg : (pre ++ tail).toArray[i]? = some (pre ++ tail)[i] := by simp [hjl]
        simp only [hg]
        unfold wpList at h
        by_cases hw : Region.wanted (pre ++ tail)[i] (yielded (pre ++ tail).toArray a.tmps) = true
        · rw [if_pos hw] at h ⊢; exact h.imp (Oper.wp_mono hrest) id
        · rw [if_neg hw] at h ⊢; exact hrest _ _ h
theorem draw2_main {pre tail : List Oper} {xs : List (AV × Mk)} (hchk : drawChk2 pre tail = true) (hlen : pre.length = xs.length) (hd : ∀ o ∈ pre, Nat.blt (o.dst.getD 0) c.n = true)
    (run : ∀ i o x, pre[i]? = some o → xs[i]? = some x → OpRunR P H (pre ++ tail).toArray ((envOf ((ents 0 pre (xs.map (·.1))).reverse.filter fun e => decide (e.1 < i)) ++ Γ).only (o.looksAt (pre ++ tail).toArray)) o x.1 x.2)
    (k : ∀ I' a' w', St c I' (H ++ made (fun _ => true) a' 0 pre xs) (envOf (ents 0 pre (xs.map (·.1))).reverse ++ Γ) a' w' → wpList P (pre ++ tail).toArray Q tail a' w') :
    ∀ (fuel : Nat) (listed : Array Bool) (I : Im) (a : Act) (w : World), listed.size = (pre ++ tail).length → ((List.range (pre ++ tail).length).filter fun i => !listed.getD i false).length ≤ fuel →
      (∀ i, i < (pre ++ tail).length → listed.getD i false = true → i < pre.length) →
      (∀ (i : Nat) (o : Oper), (pre ++ tail)[i]? = some o → listed.getD i false = true → ∀ e ∈ o.after.toList, Region.binds .any e = true → listed.getD e.on false = true) →
      St c I (H ++ made (fun i => listed.getD i false) a 0 pre xs) (envOf ((ents 0 pre (xs.map (·.1))).reverse.filter fun e => listed.getD e.1 false) ++ Γ) a w → wpAny P .any (pre ++ tail).toArray Q fuel listed a w := by
  have hL : (ents 0 pre (xs.map (·.1))).reverse.Pairwise (fun e f => f.1 < e.1) := by
    rw [List.pairwise_reverse]; exact (ents_sorted 0 pre (xs.map (·.1))).1
  have hent : ∀ e ∈ (ents 0 pre (xs.map (·.1))).reverse, ∃ o', pre[e.1]? = some o' ∧ o'.dst = some e.2.1 := fun e he => by
    obtain ⟨j, o', g1, _, g3, g4⟩ := ents_mem (List.mem_reverse.1 he)
    obtain ⟨d', hd'⟩ := (chk2_pre hchk g1).1
    refine ⟨o', by rw [g3, Nat.zero_add]; exact g1, ?_⟩
    rw [g4, hd']; rfl
  intro fuel
  induction fuel with
  | zero =>
    intro listed I a w hsz hf hpre hcl hs
    have h0 : ∀ i, i < (pre ++ tail).length → listed.getD i false = true := fun i hi => by
      have : (List.range (pre ++ tail).length).filter (fun i => !listed.getD i false) = [] := List.eq_nil_of_length_eq_zero (by omega)
      rw [List.filter_eq_nil_iff] at this
      simpa using this i (by simpa using hi)
    have htl : tail = [] := by
      rcases tail with _ | ⟨t, ts⟩
      · rfl
      · have := hpre pre.length (by simp) (h0 pre.length (by simp)); omega
    have e1 : (ents 0 pre (xs.map (·.1))).reverse.filter (fun e => listed.getD e.1 false) = (ents 0 pre (xs.map (·.1))).reverse := by
      rw [List.filter_eq_self]
      intro e he
      obtain ⟨o', h1, _⟩ := hent e he
      have := (List.getElem?_eq_some_iff.1 h1).1
      exact h0 e.1 (by simp; omega)
    have e2 : made (fun i => listed.getD i false) a 0 pre xs = made (fun _ => true) a 0 pre xs := made_same fun i o x f h1 h2 => by
      have := (List.getElem?_eq_some_iff.1 h1).1
      rw [Nat.zero_add]; exact h0 i (by simp; omega)
    rw [e1, e2] at hs
    have hw := k I a w hs
    exact tail_main hchk 0 (pre ++ tail).length listed 0 a w (by omega) (by simp) (by omega) (by omega) hsz (fun i hi => ⟨fun _ => hi, fun _ => h0 i hi⟩) (by subst htl; simpa using hw)
  | succ fuel ih =>
    intro listed I a w hsz hf hpre hcl hs
    by_cases hall : ∀ i, i < pre.length → listed.getD i false = true
    · have e1 : (ents 0 pre (xs.map (·.1))).reverse.filter (fun e => listed.getD e.1 false) = (ents 0 pre (xs.map (·.1))).reverse := by
        rw [List.filter_eq_self]
        intro e he
        obtain ⟨o', h1, _⟩ := hent e he
        exact hall e.1 (List.getElem?_eq_some_iff.1 h1).1
      have e2 : made (fun i => listed.getD i false) a 0 pre xs = made (fun _ => true) a 0 pre xs := made_same fun i o x f h1 h2 => by
        rw [Nat.zero_add]; exact hall i (List.getElem?_eq_some_iff.1 h1).1
      rw [e1, e2] at hs
      have hcnt : (pre ++ tail).length - pre.length ≤ fuel + 1 := by
        have h1 : ((List.range (pre ++ tail).length).filter fun i => !listed.getD i false) = (List.range (pre ++ tail).length).filter fun i => decide (pre.length ≤ i) := by
          apply List.filter_congr
          intro i hi
          have hi' : i < (pre ++ tail).length := by simpa using hi
          cases hb : listed.getD i false with
          | true => have := hpre i hi' hb; simp; omega
          | false =>
            have : ¬ i < pre.length := fun h => by rw [hall i h] at hb; cases hb
            simp; omega
        rw [h1] at hf
        have h2 : ((List.range (pre ++ tail).length).filter fun i => decide (pre.length ≤ i)).length = (pre ++ tail).length - pre.length := by
          have : (List.range (pre ++ tail).length) = List.range pre.length ++ (List.range tail.length).map (pre.length + ·) := by
            rw [List.length_append, List.range_add]
          rw [this, List.filter_append]
          have a1 : (List.range pre.length).filter (fun i => decide (pre.length ≤ i)) = [] := by
            rw [List.filter_eq_nil_iff]; intro i hi; simp at hi ⊢; omega
          have a2 : ((List.range tail.length).map (pre.length + ·)).filter (fun i => decide (pre.length ≤ i)) = (List.range tail.length).map (pre.length + ·) := by
            rw [List.filter_eq_self]; intro i hi; simp at hi ⊢; omega
          rw [a1, a2]; simp
        omega
      refine tail_main hchk _ pre.length listed (fuel + 1) a w rfl (by omega) (by simp) hcnt hsz (fun i hi => ⟨hpre i hi, hall i⟩) ?_
      rw [List.drop_left]
      exact k I a w hs
    · have hmin : ∃ i0, i0 < pre.length ∧ listed.getD i0 false = false := by
        refine Classical.byContradiction fun hn => hall fun i hi => ?_
        cases hb : listed.getD i false with
        | true => rfl
        | false => exact absurd ⟨i, hi, hb⟩ hn
      obtain ⟨i0, hi0, hb0⟩ := hmin
      refine ⟨fun hr => ?_, fun i hi => ?_⟩
      · exfalso
        have : ∀ i, i < (pre ++ tail).length → listed.getD i false = true := fun i => by
          induction i using Nat.strongRecOn with
          | _ i ih2 =>
            intro hi
            cases hl : listed.getD i false with
            | true => rfl
            | false =>
              have hin : i ∈ Region.ready .any (pre ++ tail).toArray listed := by
                refine mem_ready.2 ⟨by rw [getD_irr (by omega)]; exact hl, (pre ++ tail)[i], by simp [hi], fun e he hb => ?_⟩
                have hlt := chk2_edge hchk (i := i) (o := (pre ++ tail)[i]) (by simp [hi]) e (by simpa using he) hb
                exact ih2 e.on hlt (by omega)
              rw [hr] at hin; cases hin
        rw [this i0 (by simp; omega)] at hb0; cases hb0
      · obtain ⟨h1, o, h2, h3⟩ := mem_ready.1 hi
        have hlt : i < (pre ++ tail).length := by have := (Array.getElem?_eq_some_iff.1 h2).1; simpa using this
        have hol : (pre ++ tail)[i]? = some o := by simpa using h2
        rw [getD_irr (by omega)] at h1
        have hb4 := ready_before hchk hsz hcl hol (fun e he hb => h3 e (by simpa using he) hb)
        have hip : i < pre.length := by
          refine Classical.byContradiction fun hn => ?_
          have := hb4 i0 (by omega) (chk2_tail hchk (by omega) hlt (by omega))
          rw [this] at hb0; cases hb0
        have ho : pre[i]? = some o := by rw [List.getElem?_append_left hip] at hol; exact hol
        obtain ⟨⟨d, hdst⟩, hslots, hdist⟩ := chk2_pre hchk ho
        have hclo := cloAcc_spec (S := fun j => listed.getD j false) (pre ++ tail) [] (fun i k hk => by simp at hk) (fun i o ho hi e he hb => hcl i o ho (by simpa using hi) e he hb)
        have hafter : ∀ j, i ∈ (cloAcc [] (pre ++ tail)).getD j [] → listed.getD j false = false := fun j hj => by
          cases hb : listed.getD j false with
          | false => rfl
          | true => rw [hclo j i hj hb] at h1; cases h1
        have hlisted : ∀ j, (listed.setIfInBounds i true).getD j false = if j = i then true else listed.getD j false := fun j => getD_set (by omega) false
        have hcl' : ∀ (i' : Nat) (o' : Oper), (pre ++ tail)[i']? = some o' → (listed.setIfInBounds i true).getD i' false = true → ∀ e ∈ o'.after.toList, Region.binds .any e = true → (listed.setIfInBounds i true).getD e.on false = true := fun i' o' ho' hi2 e he hb => by
          rw [hlisted] at hi2 ⊢
          split
          · rfl
          · split at hi2
            · rename_i hii; subst hii
              rw [hol] at ho'; cases ho'
              exact h3 e (by simpa using he) hb
            · exact hcl i' o' ho' hi2 e he hb
        have hxl : i < xs.length := by omega
        have hxs : xs[i]? = some xs[i] := by simp [hxl]
        generalize xs[i] = x at hxs
        obtain ⟨x, r⟩ := x
        have hxs1 : (xs.map (·.1))[i]? = some x := by simp [hxs]
        have hrun := run i o (x, r) ho hxs
        have henv : EnvOk I a ((envOf ((ents 0 pre (xs.map (·.1))).reverse.filter fun e => decide (e.1 < i)) ++ Γ).only (o.looksAt (pre ++ tail).toArray)) := fun t y e => by
          obtain ⟨g1, g2⟩ := Env.get_only e
          have ht : t ∈ slotsOf (pre ++ tail).toArray o := by
            unfold slotsOf; rw [List.mem_append]; exact .inr (by simpa using g2)
          rw [get_filter_congr (q := fun e => listed.getD e.1 false) _ (fun e he het => ?_)] at g1
          · exact hs.env t y g1
          · obtain ⟨o', k1, k2⟩ := hent e he
            by_cases hei : e.1 = i
            · rw [hei, h1]; simp
            · have := hslots t ht e.1 o' k1 (fun h => hei h.symm) (by rw [k2, het])
              split at this
              · rename_i hlt'; rw [hb4 e.1 hei this]; simpa using hlt'
              · rename_i hlt'; rw [hafter e.1 this]; simpa using hlt'
        have hcount : ((List.range (pre ++ tail).length).filter fun j => !(listed.setIfInBounds i true).getD j false).length ≤ fuel := by
          have := filter_lt (l := List.range (pre ++ tail).length) (p := fun j => !listed.getD j false) (q := fun j => !(listed.setIfInBounds i true).getD j false) (i := i) (by simpa using hlt) (by simp only [h1]; rfl) (by simp only [hlisted]; simp) (fun j hj => by
            simp only [hlisted] at hj; split at hj
            · cases hj
            · exact hj)
          omega
        have hpre' : ∀ j, j < (pre ++ tail).length → (listed.setIfInBounds i true).getD j false = true → j < pre.length := fun j hj hb => by
          rw [hlisted] at hb; split at hb
          · rename_i e; subst e; exact hip
          · exact hpre j hj hb
        have hmem : (i, d, x) ∈ (ents 0 pre (xs.map (·.1))).reverse := by
          rw [List.mem_reverse]
          have := mem_ents (k := 0) ho hxs1
          rwa [hdst, Nat.zero_add] at this
        unfold wpOp
        simp only [h2]
        have hgo := hrun c.own I a w (wpAny P .any (pre ++ tail).toArray Q fuel (listed.setIfInBounds i true)) Q henv hs.step.models hs.own.left (fun v I' w' hv st hmk => by
          refine ih (listed.setIfInBounds i true) I' _ w' (by simpa using hsz) hcount hpre' hcl' ?_
          rw [hdst]
          have hdn : d < c.n := by
            have := hd o (List.mem_of_getElem? ho)
            rw [hdst] at this; simpa using this
          have hput := hs.put (d := d) (x := x) (v := v) hdn hv st
          have hsame : made (fun i => listed.getD i false) a 0 pre xs = made (fun i => listed.getD i false) (a.put (some d) v) 0 pre xs := made_congr fun j o' x' f' g1 g2 g3 => by
            have hji : j ≠ i := fun e => by subst e; rw [Nat.zero_add, h1] at g3; cases g3
            have hne := hdist j o' g1 (fun e => hji e.symm)
            obtain ⟨d', hd'⟩ := (chk2_pre hchk g1).1
            have hdd : d ≠ d' := fun e => hne (by rw [hd', hdst, e])
            rw [hd']
            simp [Act.put, hdd]
          have hown : OwnsAll c.own I' w' (H ++ made (fun j => (listed.setIfInBounds i true).getD j false) (a.put (some d) v) 0 pre xs) := by
            have h6 := hput.own
            rw [hsame] at h6
            cases r with
            | none =>
              have e3 : made (fun j => (listed.setIfInBounds i true).getD j false) (a.put (some d) v) 0 pre xs = made (fun i => listed.getD i false) (a.put (some d) v) 0 pre xs := made_same fun j o' x' f' g1 g2 => by
                have hji : j ≠ i := fun e => by subst e; rw [hxs] at g2; cases g2
                rw [Nat.zero_add, hlisted, if_neg hji]
              rw [e3]; exact h6
            | some f =>
              obtain ⟨hok, hblk⟩ := hmk f rfl
              have hv' : (a.put (some d) v).tmps.getD d undef = v := by simp [Act.put, hs.size, hdn]
              have hp := made_add (S := fun i => listed.getD i false) (a := a.put (some d) v) (k := 0) ho hxs (by rw [Nat.zero_add]; exact h1)
              rw [hdst] at hp
              simp only [Option.getD_some, hv'] at hp
              have e4 : made (fun j => if j = 0 + i then true else listed.getD j false) (a.put (some d) v) 0 pre xs = made (fun j => (listed.setIfInBounds i true).getD j false) (a.put (some d) v) 0 pre xs := made_same fun j o' x' f' g1 g2 => by
                rw [hlisted]; simp
              rw [e4] at hp
              have h7 : OwnsAll c.own I' w' (f v :: (H ++ made (fun i => listed.getD i false) (a.put (some d) v) 0 pre xs)) := by
                refine ⟨fun o ho => ?_, ?_⟩
                · rcases List.mem_cons.1 ho with rfl | ho
                  · exact ⟨hok, fun b e => by
                      obtain ⟨q1, q2, q3⟩ := hblk b e
                      exact ⟨.inl (Nat.le_trans hs.step.below.size q1), q2, q3⟩⟩
                  · exact h6.all o ho
                · rw [List.filterMap_cons]
                  cases hb : (f v).blk with
                  | none => exact h6.nodup
                  | some b =>
                    refine List.nodup_cons.2 ⟨fun hm => ?_, h6.nodup⟩
                    obtain ⟨y, hy, e⟩ := List.mem_filterMap.1 hm
                    rw [← hsame] at hy
                    have := ((hs.own.all y hy).2 b e).2.2
                    have := (hblk b hb).1
                    omega
              exact h7.perm ((List.perm_middle.symm).trans (hp.append_left H))
          refine ⟨hput.step, hown, ?_, hput.size, hput.defers⟩
          intro t y e
          refine hput.env t y ?_
          by_cases htd : t = d
          · subst htd
            rw [get_filter_top (i := i) (x := x) _ hL hmem (by simp only [hlisted]; simp) (fun e he hp het => ?_)] at e
            · rw [← e]; simp [Env.get]
            · obtain ⟨o', k1, k2⟩ := hent e he
              by_cases hle : e.1 ≤ i
              · exact hle
              · have hne : e.1 ≠ i := by omega
                exact absurd (by rw [k2, het, hdst]) (hdist e.1 o' k1 (fun h => hne h.symm))
          · rw [get_filter_congr (q := fun e => listed.getD e.1 false) _ (fun e he het => ?_)] at e
            · have hb : Nat.beq d t = false := by
                cases hb : Nat.beq d t with
                | false => rfl
                | true => exact absurd (Nat.eq_of_beq_eq_true hb).symm htd
              simp only [Env.get, hb, cond_false]; exact e
            · obtain ⟨o', k1, k2⟩ := hent e he
              have hne : e.1 ≠ i := fun h => by
                rw [h, ho] at k1; cases k1
                rw [hdst] at k2; cases k2
                exact htd het.symm
              simp only [hlisted, if_neg hne])
        by_cases hw : Region.wanted o (yielded (pre ++ tail).toArray a.tmps) = true
        · rw [if_pos hw] at hgo ⊢; exact .inl hgo
        · rw [if_neg hw] at hgo ⊢; exact hgo
end
end Go.Proofs.YtkoebplikhlapaaGreatDoor
