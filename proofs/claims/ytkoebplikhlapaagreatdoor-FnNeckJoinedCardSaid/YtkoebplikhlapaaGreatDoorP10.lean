/- Part 10: rules of the proofs, contracts of functions, plain facts. -/
import Derived.Test.YtkoebplikhlapaaGreatDoorP09
set_option linter.unusedVariables false
set_option linter.unusedSimpArgs false
namespace Go.Proofs.YtkoebplikhlapaaGreatDoor
open Go Go.RowKit
structure Upd where
  k : Nat
  deps : List Nat
  f : Act → Own
structure Rec where
  x : AV
  T : List Nat
  u : Option Upd
def Upd.fit (u : Upd) : Prop := ∀ a a' : Act, (∀ d ∈ u.deps, a.tmps.getD d undef = a'.tmps.getD d undef) → u.f a = u.f a'
def pushE (d : Option Nat) (x : AV) (Γ : Env) : Env := match d with | some d => (d, x) :: Γ | none => Γ
def updAt (H : List (Act → Own)) : Option Upd → List (Act → Own)
  | none => H
  | some u => H.set u.k u.f
def cellAt (S : Nat → Bool) (k : Nat) : Nat → List Rec → (Act → Own) → Act → Own
  | _, [], f => f
  | i, r :: rs, f => cellAt S k (i + 1) rs (match r.u with | none => f | some u => bif S i && Nat.beq u.k k then u.f else f)
def hatL (S : Nat → Bool) (i : Nat) (rs : List Rec) : Nat → List (Act → Own) → List (Act → Own)
  | _, [] => []
  | k, f :: fs => cellAt S k i rs f :: hatL S i rs (k + 1) fs
def mix (T : List Nat) (a : Act) (F : Nat → Own) : Nat → List (Act → Own) → List Own
  | _, [] => []
  | k, f :: fs => (bif T.contains k then f a else F k) :: mix T a F (k + 1) fs
def evL (a : Act) (H : List (Act → Own)) : List Own := H.map fun f => f a
theorem hatL_get {S : Nat → Bool} {i : Nat} {rs : List Rec} : ∀ (k : Nat) (H : List (Act → Own)) (j : Nat), (hatL S i rs k H)[j]? = (H[j]?).map (cellAt S (k + j) i rs)
  | _, [], j => by simp [hatL]
  | k, f :: fs, 0 => by simp [hatL]
  | k, f :: fs, j + 1 => by
    simp only [hatL, List.getElem?_cons_succ]
    rw [hatL_get (k + 1) fs j]
    have e : k + 1 + j = k + (j + 1) := by omega
    rw [e]
theorem mix_get {T : List Nat} {a : Act} {F : Nat → Own} : ∀ (k : Nat) (H : List (Act → Own)) (j : Nat), (mix T a F k H)[j]? = (H[j]?).map (fun f => bif T.contains (k + j) then f a else F (k + j))
  | _, [], j => by simp [mix]
  | k, f :: fs, 0 => by simp [mix]
  | k, f :: fs, j + 1 => by
    simp only [mix, List.getElem?_cons_succ]
    rw [mix_get (k + 1) fs j]
    have e : k + 1 + j = k + (j + 1) := by omega
    rw [e]
theorem hatL_len {S : Nat → Bool} {i : Nat} {rs : List Rec} : ∀ (k : Nat) (H : List (Act → Own)), (hatL S i rs k H).length = H.length
  | _, [] => rfl
  | k, f :: fs => by simp [hatL, hatL_len (k + 1) fs]
theorem cellAt_congr {S S' : Nat → Bool} {k : Nat} : ∀ (i : Nat) (rs : List Rec) (f : Act → Own), (∀ (j : Nat) (r : Rec) (u : Upd), rs[j]? = some r → r.u = some u → u.k = k → S (i + j) = S' (i + j)) → cellAt S k i rs f = cellAt S' k i rs f
  | _, [], _, _ => rfl
  | i, r :: rs, f, h => by
    have ih := fun f => cellAt_congr (S := S) (S' := S') (k := k) (i + 1) rs f fun j r' u h1 h2 h3 => by
      have := h (j + 1) r' u (by simpa using h1) h2 h3
      have e : i + 1 + j = i + (j + 1) := by omega
      rw [e]; exact this
    simp only [cellAt]
    rw [ih]
    cases hu : r.u with
    | none => rfl
    | some u =>
      simp only []
      cases hb : Nat.beq u.k k with
      | false => simp
      | true => rw [show S i = S' i from h 0 r u rfl hu (Nat.eq_of_beq_eq_true hb)]
theorem cellAt_none {S : Nat → Bool} {k : Nat} : ∀ (i : Nat) (rs : List Rec) (f : Act → Own), (∀ j, i ≤ j → S j = false) → cellAt S k i rs f = f
  | _, [], _, _ => rfl
  | i, r :: rs, f, h => by
    simp only [cellAt]
    rw [cellAt_none (i + 1) rs _ fun j hj => h j (by omega)]
    cases r.u with
    | none => rfl
    | some u => simp [h i (Nat.le_refl _)]
theorem cellAt_last {S : Nat → Bool} {k : Nat} : ∀ (i : Nat) (rs : List Rec) (f : Act → Own) (j : Nat) (r : Rec) (u : Upd), rs[j]? = some r → r.u = some u → u.k = k → S (i + j) = true →
    (∀ (j' : Nat) (r' : Rec) (u' : Upd), rs[j']? = some r' → r'.u = some u' → u'.k = k → j < j' → S (i + j') = false) → cellAt S k i rs f = u.f
  | _, [], _, _, _, _, h, _, _, _, _ => by simp at h
  | i, r0 :: rs, f, 0, r, u, h1, h2, h3, h4, h5 => by
    simp at h1; subst h1
    simp only [cellAt, h2]
    have hb : Nat.beq u.k k = true := by rw [h3]; exact Nat.beq_refl k
    have h4' : S i = true := h4
    rw [hb, h4']
    simp only [Bool.and_self, cond_true]
    have := cellAt_congr (S := S) (S' := fun _ => false) (k := k) (i + 1) rs u.f fun j' r' u' g1 g2 g3 => by
      have := h5 (j' + 1) r' u' (by simpa using g1) g2 g3 (by omega)
      rw [show i + 1 + j' = i + (j' + 1) from by omega]; exact this
    rw [this]
    exact cellAt_none _ _ _ fun _ _ => rfl
  | i, r0 :: rs, f, j + 1, r, u, h1, h2, h3, h4, h5 => by
    simp only [cellAt]
    exact cellAt_last (i + 1) rs _ j r u (by simpa using h1) h2 h3 (by rw [show i + 1 + j = i + (j + 1) from by omega]; exact h4) fun j' r' u' g1 g2 g3 g4 => by
      have := h5 (j' + 1) r' u' (by simpa using g1) g2 g3 (by omega)
      rw [show i + 1 + j' = i + (j' + 1) from by omega]; exact this
theorem cellAt_dep {S : Nat → Bool} {k : Nat} {a a' : Act} : ∀ (i : Nat) (rs : List Rec) (f : Act → Own), f a = f a' → (∀ (j : Nat) (r : Rec) (u : Upd), rs[j]? = some r → r.u = some u → S (i + j) = true → u.f a = u.f a') → cellAt S k i rs f a = cellAt S k i rs f a'
  | _, [], _, h, _ => h
  | i, r :: rs, f, h, hd => by
    simp only [cellAt]
    refine cellAt_dep (i + 1) rs _ ?_ fun j r' u h1 h2 h3 => hd (j + 1) r' u (by simpa using h1) h2 (by rw [show i + (j + 1) = i + 1 + j from by omega]; exact h3)
    cases hu : r.u with
    | none => exact h
    | some u =>
      simp only []
      cases hb : S i && Nat.beq u.k k with
      | false => exact h
      | true => exact hd 0 r u rfl hu (by simp only [Bool.and_eq_true] at hb; exact hb.1)
theorem hatL_step {S : Nat → Bool} {i : Nat} {r : Rec} {rs : List Rec} {H : List (Act → Own)} (hS : S i = true) : hatL S (i + 1) rs 0 (updAt H r.u) = hatL S i (r :: rs) 0 H := by
  apply List.ext_getElem?
  intro j
  rw [hatL_get, hatL_get]
  cases hu : r.u with
  | none => simp [updAt, cellAt, hu]
  | some u =>
    simp only [updAt, List.getElem?_set]
    by_cases hk : u.k = j
    · subst hk
      by_cases hl : u.k < H.length
      · simp [hl, cellAt, hu, hS]
      · simp [hl]
    · rw [if_neg hk]
      have hb : Nat.beq u.k j = false := by
        cases hb : Nat.beq u.k j with
        | false => rfl
        | true => exact absurd (Nat.eq_of_beq_eq_true hb) hk
      cases H[j]? with
      | none => rfl
      | some f => simp [cellAt, hu, hb]
theorem hatL_none {S : Nat → Bool} {i : Nat} {rs : List Rec} {H : List (Act → Own)} (h : ∀ j, i ≤ j → S j = false) : hatL S i rs 0 H = H := by
  apply List.ext_getElem?
  intro j
  rw [hatL_get]
  cases H[j]? with
  | none => rfl
  | some f => simp [cellAt_none i rs f h]
def OpW (P : Program) (n : Nat) (ops : Array Oper) (H H' : List (Act → Own)) (T : List Nat) (Γ : Env) (o : Oper) (x : AV) : Prop :=
  ∀ (F : Nat → Own) (W0 : World × (Nat → Prop)) (I0 I : Im) (a : Act) (w : World) (Q : Exit → Act → World → Prop), St ⟨W0.1, I0, n, W0.2⟩ I (mix T a F 0 H) Γ a w →
    (∀ I' a' w', St ⟨W0.1, I0, n, W0.2⟩ I' (mix T a' F 0 H') (pushE o.dst x Γ) a' w' → wpList P ops Q [] a' w') → wpList P ops Q [o] a w
def RunOkD (P : Program) (n : Nat) (ops : Array Oper) : Env → List (Act → Own) → List Oper → List Rec → Prop
  | _, _, [], [] => True
  | Γ, H, o :: os, r :: rs => OpW P n ops H (updAt H r.u) r.T (Γ.only (o.looksAt ops)) o r.x ∧ (∀ u, r.u = some u → u.fit) ∧ RunOkD P n ops (pushE o.dst r.x Γ) (updAt H r.u) os rs
  | _, _, _, _ => False
def entsD : Nat → List Oper → List Rec → List Ent
  | k, o :: os, r :: rs => match o.dst with | some d => (k, d, r.x) :: entsD (k + 1) os rs | none => entsD (k + 1) os rs
  | _, _, _ => []
theorem entsD_sorted : ∀ (k : Nat) (os : List Oper) (rs : List Rec), (entsD k os rs).Pairwise (fun e f => e.1 < f.1) ∧ ∀ e ∈ entsD k os rs, k ≤ e.1
  | k, [], _ => by simp [entsD]
  | k, o :: os, [] => by simp [entsD]
  | k, o :: os, r :: rs => by
    have ih := entsD_sorted (k + 1) os rs
    simp only [entsD]
    split
    · refine ⟨List.pairwise_cons.2 ⟨fun e he => by have := ih.2 e he; simp; omega, ih.1⟩, fun e he => ?_⟩
      rcases List.mem_cons.1 he with rfl | he
      · simp
      · have := ih.2 e he; omega
    · exact ⟨ih.1, fun e he => by have := ih.2 e he; omega⟩
theorem entsD_mem {e : Ent} : ∀ {k : Nat} {os : List Oper} {rs : List Rec}, e ∈ entsD k os rs → ∃ i o r, os[i]? = some o ∧ rs[i]? = some r ∧ e.1 = k + i ∧ o.dst = some e.2.1 ∧ e.2.2 = r.x
  | k, [], _, h => by simp [entsD] at h
  | k, o :: os, [], h => by simp [entsD] at h
  | k, o :: os, r :: rs, h => by
    simp only [entsD] at h
    have key : e ∈ entsD (k + 1) os rs → ∃ i o' r', (o :: os)[i]? = some o' ∧ (r :: rs)[i]? = some r' ∧ e.1 = k + i ∧ o'.dst = some e.2.1 ∧ e.2.2 = r'.x := fun h => by
      obtain ⟨i, o', r', h1, h2, h3, h4⟩ := entsD_mem h
      exact ⟨i + 1, o', r', by simpa using h1, by simpa using h2, by omega, h4⟩
    split at h
    · rename_i d hd
      rcases List.mem_cons.1 h with rfl | h
      · exact ⟨0, o, r, rfl, rfl, rfl, hd, rfl⟩
      · exact key h
    · exact key h
theorem mem_entsD {i d : Nat} {o : Oper} {r : Rec} (hd : o.dst = some d) : ∀ {k : Nat} {os : List Oper} {rs : List Rec}, os[i]? = some o → rs[i]? = some r → (k + i, d, r.x) ∈ entsD k os rs := by
  induction i with
  | zero => intro k os rs h1 h2; cases os <;> cases rs <;> simp at h1 h2; subst h1 h2; simp [entsD, hd]
  | succ i ih =>
    intro k os rs h1 h2
    cases os with
    | nil => simp at h1
    | cons o' os => cases rs with
      | nil => simp at h2
      | cons r' rs =>
        simp at h1 h2
        have := ih (k := k + 1) h1 h2
        rw [show k + (i + 1) = k + 1 + i from by omega]
        simp only [entsD]
        split
        · exact List.mem_cons_of_mem _ this
        · exact this
def runEnvD (Γ : Env) : List Oper → List Rec → Env
  | o :: os, r :: rs => runEnvD (pushE o.dst r.x Γ) os rs
  | _, _ => Γ
theorem runEnvD_eq : ∀ (os : List Oper) (rs : List Rec) (k : Nat) (Γ : Env), runEnvD Γ os rs = envOf (entsD k os rs).reverse ++ Γ
  | [], _, _, _ => by simp [runEnvD, entsD, envOf]
  | _ :: _, [], _, _ => by simp [runEnvD, entsD, envOf]
  | o :: os, r :: rs, k, Γ => by
    rw [runEnvD, runEnvD_eq os rs (k + 1)]
    simp only [entsD]
    cases o.dst with
    | none => rfl
    | some d => simp [envOf, pushE]
def runHD (H : List (Act → Own)) : List Rec → List (Act → Own)
  | r :: rs => runHD (updAt H r.u) rs
  | [] => H
theorem runHD_eq : ∀ (rs : List Rec) (i : Nat) (H : List (Act → Own)), runHD H rs = hatL (fun _ => true) i rs 0 H
  | [], i, H => by
    apply List.ext_getElem?; intro j; rw [hatL_get]
    show H[j]? = _
    cases H[j]? <;> rfl
  | r :: rs, i, H => by rw [runHD, runHD_eq rs (i + 1), hatL_step rfl]
theorem RunOkD.at {P : Program} {n : Nat} {ops : Array Oper} {Γ0 : Env} : ∀ (os : List Oper) (rs : List Rec) (k : Nat) (H : List (Act → Own)) (done : List Ent), RunOkD P n ops (envOf done ++ Γ0) H os rs → (∀ e ∈ done, e.1 < k) →
    os.length = rs.length ∧ (∀ (i : Nat) (r : Rec) (u : Upd), rs[i]? = some r → r.u = some u → u.fit) ∧ ∀ (i : Nat) (o : Oper) (r : Rec), os[i]? = some o → rs[i]? = some r →
      OpW P n ops (hatL (fun j => decide (j < k + i)) k rs 0 H) (updAt (hatL (fun j => decide (j < k + i)) k rs 0 H) r.u) r.T ((envOf (((entsD k os rs).reverse ++ done).filter fun e => decide (e.1 < k + i)) ++ Γ0).only (o.looksAt ops)) o r.x
  | [], [], _, _, _, _, _ => ⟨rfl, fun i r u h => by simp at h, fun i o r h => by simp at h⟩
  | o :: os, r :: rs, k, H, done, h, hd => by
    obtain ⟨h1, hf, h2⟩ := h
    have e0 : pushE o.dst r.x (envOf done ++ Γ0) = envOf (match o.dst with | some d => (k, d, r.x) :: done | none => done) ++ Γ0 := by
      cases o.dst with
      | none => rfl
      | some d => simp [pushE, envOf]
    rw [e0] at h2
    have ih := RunOkD.at os rs (k + 1) (updAt H r.u) _ h2 (fun e he => by
      split at he
      · rcases List.mem_cons.1 he with rfl | he
        · simp
        · have := hd e he; omega
      · have := hd e he; omega)
    have hre : (entsD k (o :: os) (r :: rs)).reverse ++ done = (entsD (k + 1) os rs).reverse ++ (match o.dst with | some d => (k, d, r.x) :: done | none => done) := by
      simp only [entsD]
      cases o.dst with
      | none => rfl
      | some d => simp
    refine ⟨by simp [ih.1], fun i r' u g1 g2 => ?_, fun i o' r' ho hr => ?_⟩
    · cases i with
      | zero => simp at g1; subst g1; exact hf u g2
      | succ i => exact ih.2.1 i r' u (by simpa using g1) g2
    · rw [hre]
      cases i with
      | zero =>
        simp at ho hr; subst ho hr
        have hfl : ((entsD (k + 1) os rs).reverse ++ (match o.dst with | some d => (k, d, r.x) :: done | none => done)).filter (fun e => decide (e.1 < k + 0)) = done := by
          rw [List.filter_append]
          have e1 : (entsD (k + 1) os rs).reverse.filter (fun e => decide (e.1 < k + 0)) = [] := by
            rw [List.filter_eq_nil_iff]
            intro e he
            have := (entsD_sorted (k + 1) os rs).2 e (List.mem_reverse.1 he)
            simp; omega
          have e2 : done.filter (fun e => decide (e.1 < k + 0)) = done := by
            rw [List.filter_eq_self]; intro e he; simpa using hd e he
          rw [e1]
          split
          · rw [List.filter_cons]
            simp only [Nat.add_zero, Nat.lt_irrefl, decide_false, Bool.false_eq_true, if_false, List.nil_append]
            simpa using e2
          · simpa using e2
        rw [hfl, hatL_none fun j hj => by simp; omega]
        exact h1
      | succ i =>
        have := ih.2.2 i o' r' (by simpa using ho) (by simpa using hr)
        rw [hatL_step (by simp; omega)] at this
        rw [show k + (i + 1) = k + 1 + i from by omega]
        exact this
  | [], _ :: _, _, _, _, h, _ => h.elim
  | _ :: _, [], _, _, _, h, _ => h.elim
abbrev Meta := List (List Nat × Option (Nat × List Nat))
def Rec.shapeD (r : Rec) : List Nat × Option (Nat × List Nat) := (r.T, r.u.map fun u => (u.k, u.deps))
def drawChk3 (l : List Oper) (ms : Meta) : Bool :=
  let C := cloAcc [] l
  let before := fun (i j : Nat) => if j < i then (C.getD i []).contains j else (C.getD j []).contains i
  (l.zipIdx.all fun (o, i) => (o.after.toList.all fun e => !Region.binds .any e || Nat.blt e.on i) &&
    (slotsOf l.toArray o).all fun t => l.zipIdx.all fun (o', j) => Nat.beq i j || !(o'.dst == some t) || before i j) &&
  (ms.zipIdx.all fun (m, i) => (m.1.all fun k => ms.zipIdx.all fun (m', j) => Nat.beq i j || (match m'.2 with | some u => !Nat.beq u.1 k | none => true) || before i j) &&
    (match m.2 with | some u => m.1.contains u.1 | none => true)) &&
  (l.zipIdx.all fun (o, i) => match o.dst with | none => true | some d => ms.zipIdx.all fun (m, j) => Nat.beq i j || (match m.2 with | some u => !u.2.contains d | none => true) || (C.getD j []).contains i)
theorem beq_ne {i j : Nat} (h : i ≠ j) : Nat.beq i j = false := by
  cases hb : Nat.beq i j with
  | false => rfl
  | true => exact absurd (Nat.eq_of_beq_eq_true hb) h
theorem chk3_edge {l : List Oper} {ms : Meta} (h : drawChk3 l ms = true) {i : Nat} {o : Oper} (ho : l[i]? = some o) : ∀ e ∈ o.after.toList, Region.binds .any e = true → e.on < i := fun e he hb => by
  simp only [drawChk3, List.all_eq_true, Bool.and_eq_true] at h
  have hm : (o, i) ∈ l.zipIdx := by rw [List.mem_zipIdx_iff_getElem?]; exact ho
  have := (h.1.1 _ hm).1 e he
  rw [hb] at this
  simpa using this
theorem chk3_slot {l : List Oper} {ms : Meta} (h : drawChk3 l ms = true) {i : Nat} {o : Oper} (ho : l[i]? = some o) :
    ∀ t ∈ slotsOf l.toArray o, ∀ j o', l[j]? = some o' → i ≠ j → o'.dst = some t → if j < i then j ∈ (cloAcc [] l).getD i [] else i ∈ (cloAcc [] l).getD j [] := fun t ht j o' ho' hne hd => by
  simp only [drawChk3, List.all_eq_true, Bool.and_eq_true] at h
  have hm : (o, i) ∈ l.zipIdx := by rw [List.mem_zipIdx_iff_getElem?]; exact ho
  have hm' : (o', j) ∈ l.zipIdx := by rw [List.mem_zipIdx_iff_getElem?]; exact ho'
  have := (h.1.1 _ hm).2 t ht _ hm'
  simp only [beq_ne hne, hd, Bool.false_or] at this
  have h4 : (!(some t == some t)) = false := by simp
  rw [h4, Bool.false_or] at this
  split
  · rename_i hlt; rw [if_pos hlt] at this; simpa using this
  · rename_i hlt; rw [if_neg hlt] at this; simpa using this
theorem chk3_cell {l : List Oper} {rs : List Rec} (h : drawChk3 l (rs.map Rec.shapeD) = true) {i : Nat} {r : Rec} (hr : rs[i]? = some r) :
    (∀ k ∈ r.T, ∀ j r' u, rs[j]? = some r' → i ≠ j → r'.u = some u → u.k = k → if j < i then j ∈ (cloAcc [] l).getD i [] else i ∈ (cloAcc [] l).getD j []) ∧ ∀ u, r.u = some u → u.k ∈ r.T := by
  simp only [drawChk3, List.all_eq_true, Bool.and_eq_true] at h
  have hm : (r.shapeD, i) ∈ (rs.map Rec.shapeD).zipIdx := by rw [List.mem_zipIdx_iff_getElem?]; simp [hr]
  obtain ⟨h1, h2⟩ := h.1.2 _ hm
  refine ⟨fun k hk j r' u hr' hne hu huk => ?_, fun u hu => ?_⟩
  · have hm' : (r'.shapeD, j) ∈ (rs.map Rec.shapeD).zipIdx := by rw [List.mem_zipIdx_iff_getElem?]; simp [hr']
    have := h1 k hk _ hm'
    have hb : Nat.beq u.k k = true := by rw [huk]; exact Nat.beq_refl k
    simp only [beq_ne hne, Rec.shapeD, hu, Option.map_some, hb, Bool.not_true, Bool.false_or] at this
    split
    · rename_i hlt; rw [if_pos hlt] at this; simpa using this
    · rename_i hlt; rw [if_neg hlt] at this; simpa using this
  · simp only [Rec.shapeD, hu, Option.map_some] at h2
    simpa using h2
theorem chk3_dep {l : List Oper} {rs : List Rec} (h : drawChk3 l (rs.map Rec.shapeD) = true) {i d : Nat} {o : Oper} (ho : l[i]? = some o) (hd : o.dst = some d) {j : Nat} {r : Rec} {u : Upd} (hr : rs[j]? = some r) (hu : r.u = some u) (hne : i ≠ j) (hdep : d ∈ u.deps) :
    i ∈ (cloAcc [] l).getD j [] := by
  simp only [drawChk3, List.all_eq_true, Bool.and_eq_true] at h
  have hm : (o, i) ∈ l.zipIdx := by rw [List.mem_zipIdx_iff_getElem?]; exact ho
  have := h.2 _ hm
  simp only [hd, List.all_eq_true] at this
  have hm' : (r.shapeD, j) ∈ (rs.map Rec.shapeD).zipIdx := by rw [List.mem_zipIdx_iff_getElem?]; simp [hr]
  have := this _ hm'
  simp only [beq_ne hne, Rec.shapeD, hu, Option.map_some, Bool.false_or, Bool.or_eq_true, Bool.not_eq_true'] at this
  rcases this with h | h
  · have : u.deps.contains d = true := by simpa using hdep
    rw [this] at h; cases h
  · simpa using h
section
variable {P : Program} {c : Ctx} {I : Im} {H : List Own} {Γ : Env} {a : Act} {w : World} {Q : Exit → Act → World → Prop}
theorem wp_tmps {o : Oper} {K : Act → World → Prop} {Q' : Exit → Act → World → Prop} (hq : ∀ e a w, e ≠ .normal → Q' e a w → Q e a w) (h : o.wp P a w K Q') : o.wp P a w (fun a' w' => (∃ v, a'.tmps = (a.put o.dst v).tmps) ∧ K a' w') Q := by
  unfold Oper.wp at h ⊢
  generalize (execOp a.eval o).run P w = r at h ⊢
  cases r with
  | ok n w' =>
    cases n with
    | enter f args =>
      refine Calls.mono h fun e w'' he => ?_
      cases e with
      | returned v => exact ⟨⟨v, rfl⟩, he⟩
      | panicked ch => exact hq _ _ _ (by simp) he
      | outgrown => exact let ⟨a, w, h⟩ := he; ⟨a, w, hq _ _ _ (by simp) h⟩
    | row row args => exact Rows.mono h fun v w'' he => ⟨⟨v, rfl⟩, he⟩
    | value v => exact ⟨⟨v, rfl⟩, h⟩
    | skip => exact ⟨⟨undef, rfl⟩, h⟩
    | defer d => exact ⟨⟨undef, by cases o.dst <;> rfl⟩, h⟩
    | _ => exact h
  | halt x w' => cases x <;> simp only [Oper.upon] at h ⊢ <;> first | exact h | exact hq _ _ _ (by simp) h
theorem mix_eq {T : List Nat} {F : Nat → Own} {Hf : List (Act → Own)} {X : List Own} (hl : X.length = Hf.length) (h : ∀ j f x, Hf[j]? = some f → X[j]? = some x → x = bif T.contains j then f a else F j) : mix T a F 0 Hf = X := by
  apply List.ext_getElem?
  intro j
  rw [mix_get]
  cases hf : Hf[j]? with
  | none =>
    have : Hf.length ≤ j := by simpa using hf
    rw [List.getElem?_eq_none (by omega)]; rfl
  | some f =>
    have hj : j < Hf.length := (List.getElem?_eq_some_iff.1 hf).1
    have hx : X[j]? = some X[j] := by simp [hl, hj]
    rw [hx]
    simp only [Option.map_some, Nat.zero_add]
    rw [← h j f _ hf hx]
theorem St.rebaseI (hs : St c I H Γ a w) : St ⟨c.W, I, c.n, c.F⟩ I H Γ a w :=
  ⟨⟨Im.le_refl I, fun _ _ _ => rfl, hs.step.models, hs.step.below⟩, hs.own, hs.env, hs.size, hs.defers⟩
theorem draw3_main {l : List Oper} {rs : List Rec} {H0 : List Own} (hchk : drawChk3 l (rs.map Rec.shapeD) = true) (hlen : l.length = rs.length) (hdn : (l.all fun o => match o.dst with | some d => Nat.blt d c.n | none => true) = true)
    (hfit : ∀ (i : Nat) (r : Rec) (u : Upd), rs[i]? = some r → r.u = some u → u.fit)
    (run : ∀ (i : Nat) (o : Oper) (r : Rec), l[i]? = some o → rs[i]? = some r → OpW P c.n l.toArray (hatL (fun j => decide (j < i)) 0 rs 0 (H0.map fun o _ => o)) (updAt (hatL (fun j => decide (j < i)) 0 rs 0 (H0.map fun o _ => o)) r.u) r.T ((envOf ((entsD 0 l rs).reverse.filter fun e => decide (e.1 < i)) ++ Γ).only (o.looksAt l.toArray)) o r.x)
    (k : ∀ I' a' w', St c I' (evL a' (hatL (fun _ => true) 0 rs 0 (H0.map fun o _ => o))) (envOf (entsD 0 l rs).reverse ++ Γ) a' w' → Q .normal a' w') :
    ∀ (fuel : Nat) (listed : Array Bool) (I : Im) (a : Act) (w : World), listed.size = l.length → ((List.range l.length).filter fun i => !listed.getD i false).length ≤ fuel →
      (∀ (i : Nat) (o : Oper), l[i]? = some o → listed.getD i false = true → ∀ e ∈ o.after.toList, Region.binds .any e = true → listed.getD e.on false = true) →
      St c I (evL a (hatL (fun i => listed.getD i false) 0 rs 0 (H0.map fun o _ => o))) (envOf ((entsD 0 l rs).reverse.filter fun e => listed.getD e.1 false) ++ Γ) a w → wpAny P .any l.toArray Q fuel listed a w := by
  have hL : (entsD 0 l rs).reverse.Pairwise (fun e f => f.1 < e.1) := by
    rw [List.pairwise_reverse]; exact (entsD_sorted 0 l rs).1
  have hent : ∀ e ∈ (entsD 0 l rs).reverse, ∃ o', l[e.1]? = some o' ∧ o'.dst = some e.2.1 := fun e he => by
    obtain ⟨j, o', r', g1, _, g3, g4, _⟩ := entsD_mem (List.mem_reverse.1 he)
    exact ⟨o', by rw [g3, Nat.zero_add]; exact g1, g4⟩
  have hdone : ∀ (listed : Array Bool) (I : Im) (a : Act) (w : World), (∀ i, i < l.length → listed.getD i false = true) →
      St c I (evL a (hatL (fun i => listed.getD i false) 0 rs 0 (H0.map fun o _ => o))) (envOf ((entsD 0 l rs).reverse.filter fun e => listed.getD e.1 false) ++ Γ) a w → Q .normal a w := fun listed I a w hall hs => by
    refine k I a w ?_
    have e1 : (entsD 0 l rs).reverse.filter (fun e => listed.getD e.1 false) = (entsD 0 l rs).reverse := by
      rw [List.filter_eq_self]
      intro e he
      obtain ⟨o', h1, _⟩ := hent e he
      exact hall e.1 (List.getElem?_eq_some_iff.1 h1).1
    have e2 : hatL (fun i => listed.getD i false) 0 rs 0 (H0.map fun o _ => o) = hatL (fun _ => true) 0 rs 0 (H0.map fun o _ => o) := by
      apply List.ext_getElem?
      intro j
      rw [hatL_get, hatL_get]
      cases (H0.map fun (o : Own) (_ : Act) => o)[j]? with
      | none => rfl
      | some f =>
        simp only [Option.map_some]
        rw [cellAt_congr (S := fun i => listed.getD i false) (S' := fun _ => true) 0 rs f fun j r u h1 _ _ => by
          rw [Nat.zero_add]; exact hall j (by rw [hlen]; exact (List.getElem?_eq_some_iff.1 h1).1)]
    rw [e1, e2] at hs
    exact hs
  intro fuel
  induction fuel with
  | zero =>
    intro listed I a w hsz hf hcl hs
    have h0 : ∀ i, i < l.length → listed.getD i false = true := fun i hi => by
      have : (List.range l.length).filter (fun i => !listed.getD i false) = [] := List.eq_nil_of_length_eq_zero (by omega)
      rw [List.filter_eq_nil_iff] at this
      simpa using this i (by simpa using hi)
    refine ⟨?_, hdone listed I a w h0 hs⟩
    rw [List.eq_nil_iff_forall_not_mem]
    intro i hi
    obtain ⟨h1, o, h2, _⟩ := mem_ready.1 hi
    have hlt : i < l.length := by have := (Array.getElem?_eq_some_iff.1 h2).1; simpa using this
    rw [getD_irr (by omega), h0 i hlt] at h1; cases h1
  | succ fuel ih =>
    intro listed I a w hsz hf hcl hs
    refine ⟨fun hr => ?_, fun i hi => ?_⟩
    · refine hdone listed I a w (fun i => ?_) hs
      induction i using Nat.strongRecOn with
      | _ i ih2 =>
        intro hi
        cases hl : listed.getD i false with
        | true => rfl
        | false =>
          have hin : i ∈ Region.ready .any l.toArray listed := by
            refine mem_ready.2 ⟨by rw [getD_irr (by omega)]; exact hl, l[i], by simp [hi], fun e he hb => ?_⟩
            have hlt := chk3_edge hchk (i := i) (o := l[i]) (by simp [hi]) e (by simpa using he) hb
            exact ih2 e.on hlt (by omega)
          rw [hr] at hin; cases hin
    · obtain ⟨h1, o, h2, h3⟩ := mem_ready.1 hi
      have hlt : i < l.length := by have := (Array.getElem?_eq_some_iff.1 h2).1; simpa using this
      have hol : l[i]? = some o := by simpa using h2
      rw [getD_irr (by omega)] at h1
      have hlisted : ∀ j, (listed.setIfInBounds i true).getD j false = if j = i then true else listed.getD j false := fun j => getD_set (by omega) false
      have hclo := cloAcc_spec (S := fun j => listed.getD j false) l [] (fun i k hk => by simp at hk) (fun i o ho hi e he hb => hcl i o ho (by simpa using hi) e he hb)
      have hcl' : ∀ (i' : Nat) (o' : Oper), l[i']? = some o' → (listed.setIfInBounds i true).getD i' false = true → ∀ e ∈ o'.after.toList, Region.binds .any e = true → (listed.setIfInBounds i true).getD e.on false = true := fun i' o' ho' hi2 e he hb => by
        rw [hlisted] at hi2 ⊢
        split
        · rfl
        · split at hi2
          · rename_i hii; subst hii
            rw [hol] at ho'; cases ho'
            exact h3 e (by simpa using he) hb
          · exact hcl i' o' ho' hi2 e he hb
      have hclo' := cloAcc_spec (S := fun j => (listed.setIfInBounds i true).getD j false) l [] (fun i k hk => by simp at hk) (fun i' o' ho' hi' e he hb => hcl' i' o' ho' (by simpa using hi') e he hb)
      have hafter : ∀ j, i ∈ (cloAcc [] l).getD j [] → listed.getD j false = false := fun j hj => by
        cases hb : listed.getD j false with
        | false => rfl
        | true => rw [hclo j i hj hb] at h1; cases h1
      have hb4 : ∀ j, j ≠ i → j ∈ (cloAcc [] l).getD i [] → listed.getD j false = true := fun j hji hj => by
        have h' := hclo' i j hj (by show (listed.setIfInBounds i true).getD i false = true; rw [hlisted]; simp)
        have h'' : (listed.setIfInBounds i true).getD j false = true := h'
        rwa [hlisted, if_neg hji] at h''
      have hrl : i < rs.length := by omega
      have hrr : rs[i]? = some rs[i] := by simp [hrl]
      generalize rs[i] = r at hrr
      obtain ⟨hcell, hkT⟩ := chk3_cell hchk hrr
      have hrun := run i o r hol hrr
      have hcongr : ∀ k ∈ r.T, ∀ f, cellAt (fun j => decide (j < i)) k 0 rs f = cellAt (fun j => listed.getD j false) k 0 rs f := fun k hk f => cellAt_congr 0 rs f fun j r' u g1 g2 g3 => by
        rw [Nat.zero_add]
        by_cases hij : i = j
        · subst hij; rw [h1]; simp
        · have := hcell k hk j r' u g1 hij g2 g3
          split at this
          · rename_i hlt'; rw [hb4 j (fun e => hij e.symm) this]; simpa using hlt'
          · rename_i hlt'; rw [hafter j this]; simpa using hlt'
      have hslots := chk3_slot hchk hol
      have henv : EnvOk I a ((envOf ((entsD 0 l rs).reverse.filter fun e => decide (e.1 < i)) ++ Γ).only (o.looksAt l.toArray)) := fun t y e => by
        obtain ⟨g1, g2⟩ := Env.get_only e
        have ht : t ∈ slotsOf l.toArray o := by
          unfold slotsOf; rw [List.mem_append]; exact .inr (by simpa using g2)
        rw [get_filter_congr (q := fun e => listed.getD e.1 false) _ (fun e he het => ?_)] at g1
        · exact hs.env t y g1
        · obtain ⟨o', k1, k2⟩ := hent e he
          by_cases hei : e.1 = i
          · rw [hei, h1]; simp
          · have := hslots t ht e.1 o' k1 (fun h => hei h.symm) (by rw [k2, het])
            split at this
            · rename_i hlt'; rw [hb4 e.1 hei this]; simpa using hlt'
            · rename_i hlt'; rw [hafter e.1 this]; simpa using hlt'
      have hcount : ((List.range l.length).filter fun j => !(listed.setIfInBounds i true).getD j false).length ≤ fuel := by
        have := filter_lt (l := List.range l.length) (p := fun j => !listed.getD j false) (q := fun j => !(listed.setIfInBounds i true).getD j false) (i := i) (by simpa using hlt) (by simp only [h1]; rfl) (by simp only [hlisted]; simp) (fun j hj => by
          simp only [hlisted] at hj; split at hj
          · cases hj
          · exact hj)
        omega
      let HS : List (Act → Own) := hatL (fun i => listed.getD i false) 0 rs 0 (H0.map fun o _ => o)
      let F : Nat → Own := fun k => match HS[k]? with | some f => f a | none => Own.gone
      have hmix : mix r.T a F 0 (hatL (fun j => decide (j < i)) 0 rs 0 (H0.map fun o _ => o)) = evL a HS := mix_eq (by simp [evL, HS, hatL_len]) fun j f x g1 g2 => by
        rw [hatL_get] at g1
        have g2' : (evL a HS)[j]? = some x := g2
        simp only [evL, List.getElem?_map] at g2'
        have g3 : HS[j]? = ((H0.map fun (o : Own) (_ : Act) => o)[j]?).map (cellAt (fun i => listed.getD i false) (0 + j) 0 rs) := hatL_get 0 _ j
        cases h0 : (H0.map fun (o : Own) (_ : Act) => o)[j]? with
        | none => rw [h0] at g1; simp at g1
        | some f0 =>
          rw [h0] at g1 g3
          simp only [Option.map_some, Option.some.injEq, Nat.zero_add] at g1 g3
          rw [g3] at g2'
          simp only [Option.map_some, Option.some.injEq] at g2'
          cases hT : r.T.contains j with
          | true =>
            simp only [cond_true]
            rw [← g1, ← g2', hcongr j (by simpa using hT)]
          | false =>
            simp only [cond_false, F, g3, ← g2']
      have hst0 : St ⟨c.W, I, c.n, c.F⟩ I (mix r.T a F 0 (hatL (fun j => decide (j < i)) 0 rs 0 (H0.map fun o _ => o))) ((envOf ((entsD 0 l rs).reverse.filter fun e => decide (e.1 < i)) ++ Γ).only (o.looksAt l.toArray)) a w := by
        rw [hmix]
        exact ⟨hs.rebaseI.step, hs.own, henv, hs.size, hs.defers⟩
      have hput : ∀ I' a' w', (∃ v, a'.tmps = (a.put o.dst v).tmps) → St ⟨c.W, I, c.n, c.F⟩ I' (mix r.T a' F 0 (updAt (hatL (fun j => decide (j < i)) 0 rs 0 (H0.map fun o _ => o)) r.u)) (pushE o.dst r.x ((envOf ((entsD 0 l rs).reverse.filter fun e => decide (e.1 < i)) ++ Γ).only (o.looksAt l.toArray))) a' w' →
          wpAny P .any l.toArray Q fuel (listed.setIfInBounds i true) a' w' := fun I' a' w' ⟨v, hv⟩ h' => by
        refine ih (listed.setIfInBounds i true) I' a' w' (by simpa using hsz) hcount hcl' ?_
        have hoth : ∀ t, o.dst ≠ some t → a'.tmps.getD t undef = a.tmps.getD t undef := fun t ht => by
          rw [hv]
          cases hd : o.dst with
          | none => rfl
          | some d =>
            have hne : d ≠ t := fun e => ht (by rw [hd, e])
            simp [Act.put, hne]
        have hown : mix r.T a' F 0 (updAt (hatL (fun j => decide (j < i)) 0 rs 0 (H0.map fun o _ => o)) r.u) = evL a' (hatL (fun j => (listed.setIfInBounds i true).getD j false) 0 rs 0 (H0.map fun o _ => o)) := mix_eq (by cases r.u <;> simp [evL, hatL_len, updAt]) fun j f x g1 g2 => by
          simp only [evL, List.getElem?_map] at g2
          rw [hatL_get] at g2
          cases h0 : (H0.map fun (o : Own) (_ : Act) => o)[j]? with
          | none => rw [h0] at g2; simp at g2
          | some f0 =>
            rw [h0] at g2
            simp only [Option.map_some, Option.some.injEq, Nat.zero_add] at g2
            have hf0 : ∀ a a', f0 a = f0 a' := by
              rw [List.getElem?_map] at h0
              cases hh : H0[j]? with
              | none => rw [hh] at h0; simp at h0
              | some o0 => rw [hh] at h0; simp at h0; subst h0; intro _ _; rfl
            have hsame : ∀ (hnk : ∀ u, r.u = some u → u.k ≠ j), cellAt (fun j => (listed.setIfInBounds i true).getD j false) j 0 rs f0 = cellAt (fun j => listed.getD j false) j 0 rs f0 := fun hnk => cellAt_congr 0 rs f0 fun j' r' u g3 g4 g5 => by
              rw [Nat.zero_add, hlisted, if_neg]
              intro e; subst e
              rw [hrr] at g3; cases g3
              exact hnk u g4 g5
            cases hT : r.T.contains j with
            | true =>
              simp only [cond_true]
              rw [← g2]
              have hjT : j ∈ r.T := by simpa using hT
              cases hu : r.u with
              | none =>
                rw [hu] at g1
                simp only [updAt] at g1
                rw [hatL_get, h0] at g1
                simp only [Option.map_some, Option.some.injEq, Nat.zero_add] at g1
                rw [hsame (fun u e => by rw [hu] at e; cases e), ← hcongr j hjT, g1]
              | some u =>
                rw [hu] at g1
                simp only [updAt] at g1
                by_cases hk : u.k = j
                · subst hk
                  have hlt' : u.k < (hatL (fun j => decide (j < i)) 0 rs 0 (H0.map fun o _ => o)).length := by
                    rw [hatL_len]; exact (List.getElem?_eq_some_iff.1 h0).1
                  rw [List.getElem?_set_self hlt'] at g1
                  cases g1
                  rw [cellAt_last 0 rs f0 i r u hrr hu rfl (by rw [Nat.zero_add, hlisted]; simp) fun j' r' u' g3 g4 g5 g6 => ?_]
                  have := hcell u.k hjT j' r' u' g3 (by omega) g4 g5
                  rw [if_neg (by omega)] at this
                  rw [Nat.zero_add, hlisted, if_neg (by omega)]
                  exact hafter j' this
                · rw [List.getElem?_set_ne hk, hatL_get, h0] at g1
                  simp only [Option.map_some, Option.some.injEq, Nat.zero_add] at g1
                  rw [hsame (fun u' e => by rw [hu] at e; cases e; exact hk), ← hcongr j hjT, g1]
            | false =>
              simp only [cond_false]
              rw [← g2]
              have hnk : ∀ u, r.u = some u → u.k ≠ j := fun u hu e => by
                have := hkT u hu
                rw [e] at this
                have : r.T.contains j = true := by simpa using this
                rw [hT] at this; cases this
              rw [hsame hnk]
              have g3 : HS[j]? = some (cellAt (fun i => listed.getD i false) j 0 rs f0) := by
                have := hatL_get (S := fun i => listed.getD i false) (i := 0) (rs := rs) 0 (H0.map fun (o : Own) (_ : Act) => o) j
                rw [h0, Nat.zero_add] at this; exact this
              simp only [F, g3]
              refine (cellAt_dep 0 rs f0 (hf0 a' a) fun j' r' u' g4 g5 g6 => hfit j' r' u' g4 g5 a' a fun d hd => hoth d fun e => ?_)
              rw [Nat.zero_add] at g6
              by_cases hij : i = j'
              · subst hij; have g6' : listed.getD i false = true := g6; rw [h1] at g6'; cases g6'
              · have g6' : listed.getD j' false = true := g6
                rw [hafter j' (chk3_dep hchk hol e g4 g5 hij hd)] at g6'; cases g6'
        rw [hown] at h'
        have hstep : StepF c.F c.I c.W I' w' := ⟨Im.le_trans hs.step.le h'.step.le, fun b hb hf => (h'.step.old b hb hf).trans (hs.step.old b hb hf), h'.step.models, h'.step.below⟩
        refine ⟨hstep, h'.own, ?_, h'.size, h'.defers⟩
        intro t y e
        by_cases htd : o.dst = some t
        · have hmem : (i, t, r.x) ∈ (entsD 0 l rs).reverse := by
            rw [List.mem_reverse]
            have := mem_entsD htd (k := 0) hol hrr
            rwa [Nat.zero_add] at this
          rw [get_filter_top (i := i) (x := r.x) _ hL hmem (by simp only [hlisted]; simp) (fun e he hp het => ?_)] at e
          · cases e
            exact h'.env t r.x (by rw [htd]; simp [pushE, Env.get])
          · obtain ⟨o', k1, k2⟩ := hent e he
            by_cases hle : e.1 ≤ i
            · exact hle
            · have hne : i ≠ e.1 := by omega
              have := hslots t (by unfold slotsOf; rw [List.mem_append]; exact .inl (by simp [htd])) e.1 o' k1 hne (by rw [k2, het])
              rw [if_neg (by omega)] at this
              have hne2 : ¬ e.1 = i := fun h => hne h.symm
              rw [hlisted, if_neg hne2, hafter e.1 this] at hp; cases hp
        · rw [get_filter_congr (q := fun e => listed.getD e.1 false) _ (fun e he het => ?_)] at e
          · have := hs.env t y e
            rw [hoth t htd]
            exact y.up _ _ _ h'.step.le this
          · obtain ⟨o', k1, k2⟩ := hent e he
            have hne : e.1 ≠ i := fun h => by
              rw [h, hol] at k1; cases k1
              exact htd (by rw [k2, het])
            simp only [hlisted, if_neg hne]
      let Q' : Exit → Act → World → Prop := fun e a' w' => match e with
        | .normal => ∃ I', St ⟨c.W, I, c.n, c.F⟩ I' (mix r.T a' F 0 (updAt (hatL (fun j => decide (j < i)) 0 rs 0 (H0.map fun o _ => o)) r.u)) (pushE o.dst r.x ((envOf ((entsD 0 l rs).reverse.filter fun e => decide (e.1 < i)) ++ Γ).only (o.looksAt l.toArray))) a' w'
        | e => Q e a' w'
      have hQ : ∀ e a w, e ≠ .normal → Q' e a w → Q e a w := fun e a w hn h => by
        cases e <;> first | exact absurd rfl hn | exact h
      have hgo := hrun F (c.W, c.F) I I a w Q' hst0 fun I' a' w' h' => ⟨I', h'⟩
      unfold wpOp
      simp only [h2]
      unfold wpList at hgo
      by_cases hw : Region.wanted o (yielded l.toArray a.tmps) = true
      · rw [if_pos hw] at hgo ⊢
        rcases hgo with hgo | ⟨h5, h6⟩
        · exact .inl (Oper.wp_mono (fun a' w' h => h) (Oper.wp_mono (fun a' w' ⟨hv, I', h'⟩ => hput I' a' w' hv h') (wp_tmps hQ hgo)))
        · exact .inr ⟨h5, let ⟨a, w, h⟩ := h6; ⟨a, w, hQ _ a w (by simp) h⟩⟩
      · rw [if_neg hw] at hgo ⊢
        obtain ⟨I', h'⟩ := hgo
        exact hput I' _ w ⟨undef, rfl⟩ h'
def RunD (P : Program) (c : Ctx) (ops : Array Oper) (Q : Exit → Act → World → Prop) (Γ : Env) (H : List (Act → Own)) (os : List Oper) (ms : Meta) : Prop :=
  ∃ rs, rs.map Rec.shapeD = ms ∧ RunOkD P c.n ops Γ H os rs ∧ ∀ I' a' w', St c I' (evL a' (runHD H rs)) (runEnvD Γ os rs) a' w' → Q .normal a' w'
theorem RunD.nil {ops : Array Oper} {Hf : List (Act → Own)} (k : ∀ I' a' w', St c I' (evL a' Hf) Γ a' w' → Q .normal a' w') : RunD P c ops Q Γ Hf [] [] := ⟨[], rfl, trivial, k⟩
theorem RunD.cons {ops : Array Oper} {Hf : List (Act → Own)} {o : Oper} {os : List Oper} {x : AV} {T : List Nat} {u : Option Upd} {ms : Meta} (hu : ∀ v, u = some v → v.fit) (h : OpW P c.n ops Hf (updAt Hf u) T (Γ.only (o.looksAt ops)) o x) (k : RunD P c ops Q (pushE o.dst x Γ) (updAt Hf u) os ms) :
    RunD P c ops Q Γ Hf (o :: os) ((T, u.map fun u => (u.k, u.deps)) :: ms) :=
  let ⟨rs, h1, h2, h3⟩ := k; ⟨⟨x, T, u⟩ :: rs, by simp [Rec.shapeD, h1], ⟨h, hu, h2⟩, h3⟩
theorem St.drawD {id : Nat} {l : List Oper} (ms : Meta) (hs : St c I H Γ a w) (hm : P.follows .mixedOrders = true) (hchk : drawChk3 l ms = true) (hd : (l.all fun o => match o.dst with | some d => Nat.blt d c.n | none => true) = true)
    (run : RunD P c l.toArray Q Γ (H.map fun o _ => o) l ms) : (Code.region id l.toArray true).wp P Q a w := by
  obtain ⟨rs, h0, run, k⟩ := run
  subst h0
  refine wp_region_any hm ?_
  obtain ⟨hlen, hfit, hrun⟩ := RunOkD.at (Γ0 := Γ) l rs 0 _ [] (by simpa [envOf] using run) (fun e he => by simp at he)
  have hf : ∀ i : Nat, (Array.replicate l.length false).getD i false = false := fun i => by
    rw [Array.getD_eq_getD_getElem?, Array.getElem?_replicate]; split <;> rfl
  have := draw3_main (P := P) (c := c) (H0 := H) (Γ := Γ) (Q := Q) hchk hlen hd hfit (fun i o r ho hr => by simpa using hrun i o r ho hr) (fun I' a' w' h => by
      rw [← runEnvD_eq, ← runHD_eq] at h; exact k I' a' w' h) l.length (Array.replicate l.length false) I a { w with drawn := w.drawn + 1 } (by simp)
    (by simpa using List.length_filter_le _ (List.range l.length)) (fun i o ho hi => by rw [hf] at hi; cases hi) (by
      have he : (entsD 0 l rs).reverse.filter (fun e => (Array.replicate l.length false).getD e.1 false) = [] := by
        rw [List.filter_eq_nil_iff]; intro e _; rw [hf]; simp
      have hh : evL a (hatL (fun i => (Array.replicate l.length false).getD i false) 0 rs 0 (H.map fun o _ => o)) = H := by
        rw [hatL_none fun j _ => hf j]; simp [evL, Function.comp_def]
      rw [he, hh]
      exact ⟨⟨hs.step.le, hs.step.old, hs.step.models, hs.step.below.drew⟩, ⟨fun o ho => ⟨o.keep I I w _ (Im.le_refl I) (fun _ _ => rfl) (hs.own.all o ho).1, (hs.own.all o ho).2⟩, hs.own.nodup⟩, hs.env, hs.size, hs.defers⟩)
  simpa using this
end
theorem mix_nil {a a' : Act} {F : Nat → Own} {Hf : List (Act → Own)} : mix [] a F 0 Hf = mix [] a' F 0 Hf := by
  apply List.ext_getElem?
  intro j; rw [mix_get, mix_get]; rfl
theorem mix_set {k : Nat} {a a' : Act} {F : Nat → Own} {Hf : List (Act → Own)} {f : Act → Own} {O : Own} (h : O = f a') : (mix [k] a F 0 Hf).set k O = mix [k] a' F 0 (Hf.set k f) := by
  apply List.ext_getElem?
  intro j
  rw [mix_get, List.getElem?_set, List.getElem?_set, mix_get]
  have hl : (mix [k] a F 0 Hf).length = Hf.length := by
    have : ∀ (n : Nat) (L : List (Act → Own)), (mix [k] a F n L).length = L.length := by
      intro n L; induction L generalizing n with
      | nil => rfl
      | cons x L ih => simp [mix, ih]
    exact this 0 Hf
  rw [hl]
  by_cases hk : k = j
  · subst hk
    by_cases hlt : k < Hf.length
    · simp [hlt, h]
    · simp [hlt]
  · rw [if_neg hk, if_neg hk]
    have hc : ([k].contains (0 + j)) = false := by simp; omega
    rw [hc]; rfl
section
variable {P : Program} {c : Ctx} {I : Im} {H : List Own} {Γ : Env} {a : Act} {w : World} {Q : Exit → Act → World → Prop} {ops : Array Oper} {Hf : List (Act → Own)} {os : List Oper} {ms : Meta}
theorem St.pass {H' : List Own} (hs : St c I H Γ a w) (h : H = H') : St c I H' Γ a w := h ▸ hs
theorem RunD.op {o : Oper} {d : Nat} {x : AV} (hg : o.guard = none) (ho : o.dst = some d) (hd : Nat.blt d c.n = true) (h : ∀ F a, Ok P (mix [] a F 0 Hf) (Γ.only (o.looksAt ops)) true o x)
    (k : RunD P c ops Q ((d, x) :: Γ) Hf os ms) : RunD P c ops Q Γ Hf (o :: os) (([], none) :: ms) :=
  RunD.cons (u := none) (x := x) (fun v e => by cases e) (fun F W0 I0 I a w Q hs kk => hs.op hg ho hd (h F a) fun I' a' w' hs' => kk I' a' w' (by rw [ho]; exact hs'.pass mix_nil)) (by rw [ho]; exact k)
theorem RunD.opG {o : Oper} {d : Nat} {x : AV} {G : Bool} (hg : Guarded ops (Γ.only (o.looksAt ops)) o G) (ho : o.dst = some d) (hd : Nat.blt d c.n = true) (h : ∀ F a, Ok P (mix [] a F 0 Hf) (Γ.only (o.looksAt ops)) G o x)
    (k : RunD P c ops Q ((d, .cond G x) :: Γ) Hf os ms) : RunD P c ops Q Γ Hf (o :: os) (([], none) :: ms) :=
  RunD.cons (u := none) (x := .cond G x) (fun v e => by cases e) (fun F W0 I0 I a w Q hs kk => hs.opG hg ho hd (h F a) fun I' a' w' hs' => kk I' a' w' (by rw [ho]; exact hs'.pass mix_nil)) (by rw [ho]; exact k)
theorem RunD.opR {o : Oper} {d : Nat} {x : AV} (T : List Nat) (hc : ∀ F a a', mix T a F 0 Hf = mix T a' F 0 Hf) (hg : o.guard = none) (ho : o.dst = some d) (hd : Nat.blt d c.n = true) (h : ∀ F a, Ok P (mix T a F 0 Hf) (Γ.only (o.looksAt ops)) true o x)
    (k : RunD P c ops Q ((d, x) :: Γ) Hf os ms) : RunD P c ops Q Γ Hf (o :: os) ((T, none) :: ms) :=
  RunD.cons (u := none) (x := x) (fun v e => by cases e) (fun F W0 I0 I a w Q hs kk => hs.op hg ho hd (h F a) fun I' a' w' hs' => kk I' a' w' (by rw [ho]; exact hs'.pass (hc F a a'))) (by rw [ho]; exact k)
theorem RunD.eff {o : Oper} {x : AV} {O : Own} (k : Nat)
    (h : ∀ (F : Nat → Own) (W0 : World × (Nat → Prop)) (I0 I : Im) (a : Act) (w : World) (Q : Exit → Act → World → Prop), St ⟨W0.1, I0, c.n, W0.2⟩ I (mix [k] a F 0 Hf) (Γ.only (o.looksAt ops)) a w →
      (∀ I' a' w', St ⟨W0.1, I0, c.n, W0.2⟩ I' ((mix [k] a F 0 Hf).set k O) (pushE o.dst x (Γ.only (o.looksAt ops))) a' w' → wpList P ops Q [] a' w') → wpList P ops Q [o] a w)
    (r : RunD P c ops Q (pushE o.dst x Γ) (Hf.set k fun _ => O) os ms) : RunD P c ops Q Γ Hf (o :: os) (([k], some (k, [])) :: ms) :=
  RunD.cons (u := some ⟨k, [], fun _ => O⟩) (x := x) (fun v e => by cases e; intro _ _ _; rfl) (fun F W0 I0 I a w Q hs kk => h F W0 I0 I a w Q hs fun I' a' w' hs' => kk I' a' w' (hs'.pass (mix_set rfl))) r
theorem St.into {x : Own} (k : Nat) (hs : St c I (H ++ [x]) Γ a w) (hk : H[k]? = some Own.gone) : St c I (H.set k x) Γ a w := by
  refine ⟨hs.step, ⟨fun o ho => ?_, ?_⟩, hs.env, hs.size, hs.defers⟩
  · rcases List.mem_or_eq_of_mem_set ho with ho | rfl
    · exact hs.own.all o (List.mem_append_left _ ho)
    · exact hs.own.all _ (by simp)
  · have hn := hs.own.nodup
    rw [List.filterMap_append, List.nodup_append] at hn
    refine filterMap_set_nodup hn.1 fun b hb => .inr fun y hy e => ?_
    exact hn.2.2 b (List.mem_filterMap.2 ⟨y, hy, e⟩) b (List.mem_filterMap.2 ⟨x, by simp, hb⟩) rfl
theorem St.ownGone (hs : St c I H Γ a w) : St c I (H ++ [Own.gone]) Γ a w :=
  ⟨hs.step, ⟨fun y hy => by
    rcases List.mem_append.1 hy with hy | hy
    · exact hs.own.all y hy
    · obtain rfl := by simpa using hy
      exact ⟨trivial, fun b e => by cases e⟩,
    by rw [List.filterMap_append]; simpa [Own.gone] using hs.own.nodup⟩, hs.env, hs.size, hs.defers⟩
theorem mix_at {k : Nat} {a : Act} {F : Nat → Own} {f : Act → Own} (h : Hf[k]? = some f) : (mix [k] a F 0 Hf)[k]? = some (f a) := by
  rw [mix_get, h]; simp
variable {T T' E ty : TypeId} {p : String} {af : Array Edge} {ag : Bool} {n m d : Nat} {zv : Value} {l lx : List AV} {z y : Operand}
theorem mkBox_at {a : Act} {b : Nat} (h : a.tmps.getD d undef = .pointer (some ⟨b, 0, none⟩)) : mkBox T l (a.tmps.getD d undef) = Own.box b T l := by rw [h]; rfl
theorem dep_one {k : Nat} {g : Value → Own} (h : ∀ v v', v = v' → g v = g v') : ∀ v, (some (⟨k, [d], fun a => g (a.tmps.getD d undef)⟩ : Upd)) = some v → v.fit := fun v e => by
  cases e; intro a a' hh
  exact h _ _ (hh d (by simp))
theorem RunD.alloc (k : Nat) (hk : Hf[k]? = some fun _ => Own.gone) (hd : Nat.blt d c.n = true) (hT : Ty P T ag n m zv) (hz : ∀ I, HoldsL I l zv.cells.toList)
    (r : RunD P c ops Q ((d, AV.newp) :: Γ) (Hf.set k fun a => mkBox T l (a.tmps.getD d undef)) os ms) : RunD P c ops Q Γ Hf (⟨some d, .alloc T, ty, p, af, none⟩ :: os) (([k], some (k, [d])) :: ms) :=
  RunD.cons (u := some ⟨k, [d], fun a => mkBox T l (a.tmps.getD d undef)⟩) (x := AV.newp) (dep_one fun v v' e => e ▸ rfl) (fun F W0 I0 I a w Q hs kk => hs.alloc hd hT hz fun b I' a' w' hs' => by
    have hv : a'.tmps.getD d undef = .pointer (some ⟨b, 0, none⟩) := hs'.env d (.val (.pointer (some ⟨b, 0, none⟩))) (by simp [Env.get])
    refine kk I' a' w' ?_
    have h1 := (hs'.into k (mix_at hk)).pass (mix_set (f := fun a => mkBox T l (a.tmps.getD d undef)) (mkBox_at hv).symm)
    exact ⟨h1.step, h1.own, fun t x e => by
      simp only [pushE, Env.get] at e
      cases hb : Nat.beq d t with
      | true =>
        rw [hb] at e; simp only [cond_true] at e; cases e
        obtain rfl : d = t := Nat.eq_of_beq_eq_true hb
        exact ⟨b, hv⟩
      | false => rw [hb] at e; exact h1.env t x (by simp only [Env.get, hb]; exact e), h1.size, h1.defers⟩) r
theorem RunD.storeN (k : Nat) (hk : Hf[k]? = some fun a => mkBox T' l (a.tmps.getD d undef)) (hT : Ty P T true n m zv) (hy : Env.get d (Γ.only ((⟨none, .store T (.tmp d) z, ty, p, af, none⟩ : Oper).looksAt ops)) = some AV.newp)
    (hz : At (Γ.only ((⟨none, .store T (.tmp d) z, ty, p, af, none⟩ : Oper).looksAt ops)) true z (.agg lx)) (hn : lx.length = n) (hl : l.length = n)
    (r : RunD P c ops Q Γ (Hf.set k fun a => mkBox T' lx (a.tmps.getD d undef)) os ms) : RunD P c ops Q Γ Hf (⟨none, .store T (.tmp d) z, ty, p, af, none⟩ :: os) (([k], some (k, [d])) :: ms) :=
  RunD.cons (u := some ⟨k, [d], fun a => mkBox T' lx (a.tmps.getD d undef)⟩) (x := AV.any) (dep_one fun v v' e => e ▸ rfl) (fun F W0 I0 I a w Q hs kk => by
    obtain ⟨b, hb⟩ := hs.env d _ hy
    obtain ⟨cs, hv, hlx⟩ := hz I a hs.env rfl
    have hk' := mix_at (a := a) (F := F) hk
    rw [mkBox_at hb] at hk'
    obtain ⟨w', hr, hs'⟩ := hs.storeBox (q := 0) (lx := lx) (v := a.eval z) k hT hk' (by rw [hv]; exact hlx) hn (by rw [hl]; simp)
    have e : seg l 0 lx = lx := by simp [seg]; omega
    rw [e] at hs'
    exact wpList_here rfl (store_upon hb rfl hr (kk I _ w' (hs'.pass (mix_set (f := fun a => mkBox T' lx (a.tmps.getD d undef)) (mkBox_at hb).symm))))) r
theorem St.openAt (k : Nat) (hs : St c I H Γ a w) (hd : Env.get d Γ = some AV.newp) (hk : H[k]? = some (mkBox T l (a.tmps.getD d undef))) : ∃ b, St c I (H.set k (Own.box b T l)) ((d, .val (.pointer (some ⟨b, 0, none⟩))) :: Γ) a w := by
  obtain ⟨b, hb⟩ : ∃ b, a.tmps.getD d undef = .pointer (some ⟨b, 0, none⟩) := hs.env d _ hd
  rw [mkBox_at hb] at hk
  have e : H.set k (Own.box b T l) = H := by
    apply List.ext_getElem?; intro j
    rw [List.getElem?_set]
    split
    · rename_i e; subst e
      rw [hk]; simp [(List.getElem?_eq_some_iff.1 hk).1]
    · rfl
  refine ⟨b, hs.step, by rw [e]; exact hs.own, fun t x e => ?_, hs.size, hs.defers⟩
  simp only [Env.get] at e
  cases hbq : Nat.beq d t with
  | true =>
    rw [hbq] at e; simp only [cond_true] at e; cases e
    obtain rfl : d = t := Nat.eq_of_beq_eq_true hbq
    exact hb
  | false => rw [hbq] at e; exact hs.env t x (by simpa using e)
theorem RunD.appendN {d' : Nat} {sz : Nat} {l l2 : List (List AV)} (k : Nat) (hk : Hf[k]? = some fun a => Own.row (a.tmps.getD d' undef) E sz l) (hd : Nat.blt d c.n = true) (hU : P.underlying T = some (.slice E)) (hE : Ty P E ag sz m zv) (hzs : zv.cells.size = sz)
    (hz : At (Γ.only ((⟨some d, .call ⟨.builtin .append, #[.tmp d', z], #[T, T]⟩, ty, p, af, none⟩ : Oper).looksAt ops)) true z (.rows sz l2))
    (hb : (l.length + l2.length) * m ≤ 140737488355328 ∧ l.length + l2.length ≤ 140737488355328)
    (r : RunD P c ops Q ((d, .rows sz (l ++ l2)) :: Γ) (Hf.set k fun _ => Own.gone) os ms) : RunD P c ops Q Γ Hf (⟨some d, .call ⟨.builtin .append, #[.tmp d', z], #[T, T]⟩, ty, p, af, none⟩ :: os) (([k], some (k, [])) :: ms) :=
  RunD.cons (u := some ⟨k, [], fun _ => Own.gone⟩) (x := .rows sz (l ++ l2)) (fun v e => by cases e; intro _ _ _; rfl) (fun F W0 I0 I a w Q hs kk => by
    have hk' := mix_at (a := a) (F := F) hk
    obtain ⟨v', w', hr, hs'⟩ := hs.appendRow (ty := ty) k hU hE hzs hk' (hz I a hs.env rfl) hb.1 (by simp only [maxLen]; omega)
    refine wpList_here rfl ?_
    unfold Oper.wp
    have e1 : a.eval (.tmp d') = a.tmps.getD d' undef := rfl
    simp only [execOp, resolve, invoke, builtin, Sem.run_bind, Sem.run_pure, Result.andThen_ok, List.map_toArray, List.map_cons, List.map_nil, e1, hr]
    have hs4 := hs'.put0 hs'.step (Im.le_refl _) hs'.own hd (x := .val v') rfl
    obtain ⟨I', hs2, hf⟩ := hs4.freezeRow k (by rw [List.getElem?_set_self (List.getElem?_eq_some_iff.1 hk').1])
    rw [List.set_set] at hs2
    have hs3 := hs2.upd (t := d) (by simp [Env.get]) hf
    refine kk I' _ w' ((hs3.le fun t x e => ?_).pass (mix_set rfl))
    simp only [pushE, Env.get] at e ⊢
    cases hbq : Nat.beq d t with
    | true => rw [hbq] at e; exact e
    | false => rw [hbq] at e; simpa using e) r
def AV.slc : AV := ⟨fun _ v => v.oneCell' = true, fun _ _ _ _ h => h⟩
theorem RunD.appendK {v : Value} {sz : Nat} {l l2 : List (List AV)} (k : Nat) (hk : Hf[k]? = some fun _ => Own.row v E sz l) (hd : Nat.blt d c.n = true) (hU : P.underlying T = some (.slice E)) (hE : Ty P E ag sz m zv) (hzs : zv.cells.size = sz)
    (hy : At (Γ.only ((⟨some d, .call ⟨.builtin .append, #[y, z], #[T, T]⟩, ty, p, af, none⟩ : Oper).looksAt ops)) true y (.val v)) (hz : At (Γ.only ((⟨some d, .call ⟨.builtin .append, #[y, z], #[T, T]⟩, ty, p, af, none⟩ : Oper).looksAt ops)) true z (.rows sz l2))
    (hb : (l.length + l2.length) * m ≤ 140737488355328 ∧ l.length + l2.length ≤ 140737488355328)
    (r : RunD P c ops Q ((d, AV.slc) :: Γ) (Hf.set k fun a => Own.row (a.tmps.getD d undef) E sz (l ++ l2)) os ms) : RunD P c ops Q Γ Hf (⟨some d, .call ⟨.builtin .append, #[y, z], #[T, T]⟩, ty, p, af, none⟩ :: os) (([k], some (k, [d])) :: ms) :=
  RunD.cons (u := some ⟨k, [d], fun a => Own.row (a.tmps.getD d undef) E sz (l ++ l2)⟩) (x := AV.slc) (dep_one (g := fun v => Own.row v E sz (l ++ l2)) fun v v' e => e ▸ rfl) (fun F W0 I0 I a w Q hs kk => hs.append k hd hU hE hzs hy hz (mix_at hk) hb fun v' a' w' hs' => by
    have hv : a'.tmps.getD d undef = v' := hs'.env d (.val v') (by simp [Env.get])
    have hrow := hs'.own.all (Own.row v' E sz (l ++ l2)) (List.mem_of_getElem? (i := k) (by rw [List.getElem?_set_self (List.getElem?_eq_some_iff.1 (mix_at (a := a) (F := F) hk)).1]))
    have h1 := hs'.pass (mix_set (a' := a') (f := fun a => Own.row (a.tmps.getD d undef) E sz (l ++ l2)) (by rw [hv]))
    exact kk I a' w' ⟨h1.step, h1.own, fun t x e => by
      simp only [pushE, Env.get] at e
      cases hb : Nat.beq d t with
      | true =>
        rw [hb] at e; simp only [cond_true] at e; cases e
        obtain rfl : d = t := Nat.eq_of_beq_eq_true hb
        show (a'.tmps.getD d undef).oneCell' = true
        rw [hv]
        obtain ⟨_, ⟨_, rfl | ⟨q, rfl, _⟩⟩ | ⟨b, cap, cur, rfl, _⟩⟩ := hrow.1 <;> rfl
      | false => rw [hb] at e; exact h1.env t x (by simp only [Env.get, hb]; exact e), h1.size, h1.defers⟩) r
theorem RunD.storeK {d' b q : Nat} {l : List AV} (k : Nat) (hk : Hf[k]? = some fun _ => Own.box b T' l) (hT : Ty P T false 1 m zv) (hy : At (Γ.only ((⟨none, .store T y (.tmp d'), ty, p, af, none⟩ : Oper).looksAt ops)) true y (.val (.pointer (some ⟨b, q, none⟩))))
    (hz : Env.get d' (Γ.only ((⟨none, .store T y (.tmp d'), ty, p, af, none⟩ : Oper).looksAt ops)) = some AV.slc) (hq : Nat.blt q l.length = true)
    (r : RunD P c ops Q Γ (Hf.set k fun a => Own.box b T' (l.set q (.val (a.tmps.getD d' undef)))) os ms) : RunD P c ops Q Γ Hf (⟨none, .store T y (.tmp d'), ty, p, af, none⟩ :: os) (([k], some (k, [d'])) :: ms) :=
  RunD.cons (u := some ⟨k, [d'], fun a => Own.box b T' (l.set q (.val (a.tmps.getD d' undef)))⟩) (x := AV.any) (dep_one (g := fun v => Own.box b T' (l.set q (.val v))) fun v v' e => e ▸ rfl) (fun F W0 I0 I a w Q hs kk => by
    have hb := hy I a hs.env rfl
    have h1 : (a.tmps.getD d' undef).oneCell' = true := hs.env d' _ hz
    have hc := cells_one h1
    have hq' : q < l.length := by simpa using hq
    obtain ⟨w', hr, hs'⟩ := hs.storeBox (q := q) (lx := [.val (a.tmps.getD d' undef)]) (v := a.tmps.getD d' undef) k hT (mix_at hk) (by rw [hc]; exact ⟨⟨rfl, h1⟩, trivial⟩) rfl (by simp; omega)
    rw [seg_one hq'] at hs'
    exact wpList_here rfl (store_upon hb rfl hr (kk I _ w' (hs'.pass (mix_set (f := fun a => Own.box b T' (l.set q (.val (a.tmps.getD d' undef)))) rfl))))) r
def AV.bare : AV := ⟨fun _ v => Bare v, fun _ _ _ _ h => h⟩
theorem ok_lit0 {H : List Own} {g : Bool} {d : Option Tmp} {gd : Option (Nat × Bool)} {sz : Nat} (hT : P.underlying T = some (.slice E)) (hE : Ty P E ag sz m zv) : Ok P H Γ g ⟨d, .buildSlice T 0 #[], ty, p, af, gd⟩ AV.bare :=
  fun base I a w K Q he hm hw hg k => by
    have hs1 : (sizeOf E).run P w = .ok sz w := hE.size
    have hr : (Instr.buildSlice T 0 ((#[] : Array (Nat × Operand)).map fun (i, x) => (i, a.eval x))).run P w = .ok (.slice (some ⟨w.heap.size, 0, none⟩) 0 0) (w.alloc (.cells #[] E)) := by
      simp only [Instr.buildSlice, Sem.run_bind, run_underlying hT, Result.andThen_ok, hs1]
      have e0 : Array.range 0 = #[] := rfl
      simp [Instr.fill, run_newRow, e0]
    unfold Oper.wp
    simp only [execOp, Sem.run_bind, hr, Result.andThen_ok, Sem.run_pure, Oper.upon_value]
    exact k _ I _ (.inr ⟨⟨w.heap.size, 0, none⟩, rfl, rfl⟩) (Step.alloc hm (.cells #[] E))
theorem ok_append0 {H : List Own} {g : Bool} {d : Option Tmp} {gd : Option (Nat × Bool)} {sz : Nat} {l2 : List (List AV)} (hU : P.underlying T = some (.slice E)) (hE : Ty P E ag sz m zv) (hzs : zv.cells.size = sz) (hy : At Γ g y AV.bare) (hz : At Γ g z (.rows sz l2)) (hb : g = true → l2.length * m ≤ 140737488355328 ∧ l2.length ≤ 140737488355328) :
    Ok P H Γ g ⟨d, .call ⟨.builtin .append, #[y, z], #[T, T]⟩, ty, p, af, gd⟩ (.rows sz l2) :=
  fun base I a w K Q he hm hw hg k => by
    have hbare : Bare (a.eval y) := hy I a he hg
    have hs0 : St ⟨w, I, 0, noF⟩ I [] [] { tmps := #[], defers := [] } w := ⟨StepF.refl hm, OwnsAll.nil _ _ _, fun t x e => by simp [Env.get] at e, rfl, rfl⟩
    have hs1 := hs0.own0 (sz := sz) E hbare
    obtain ⟨v', w', hr, hs2⟩ := hs1.appendRow (ty := ty) 0 hU hE hzs rfl (hz I a he hg) (by simpa using (hb hg).1) (by have := (hb hg).2; simp only [maxLen]; simp; omega)
    obtain ⟨I', hs3, hv⟩ := hs2.freezeRow 0 rfl
    unfold Oper.wp
    simp only [execOp, resolve, invoke, builtin, Sem.run_bind, Sem.run_pure, Result.andThen_ok, List.map_toArray, List.map_cons, List.map_nil, hr]
    exact k v' I' w' hv hs3.step.all
theorem RunD.appendOB {sz : Nat} {l2 : List (List AV)} (k : Nat) (hk : Hf[k]? = some fun _ => Own.gone) (hd : Nat.blt d c.n = true) (hU : P.underlying T = some (.slice E)) (hE : Ty P E ag sz m zv) (hzs : zv.cells.size = sz)
    (hy : At (Γ.only ((⟨some d, .call ⟨.builtin .append, #[y, z], #[T, T]⟩, ty, p, af, none⟩ : Oper).looksAt ops)) true y AV.bare) (hz : At (Γ.only ((⟨some d, .call ⟨.builtin .append, #[y, z], #[T, T]⟩, ty, p, af, none⟩ : Oper).looksAt ops)) true z (.rows sz l2))
    (hb : l2.length * m ≤ 140737488355328 ∧ l2.length ≤ 140737488355328)
    (r : RunD P c ops Q ((d, AV.slc) :: Γ) (Hf.set k fun a => Own.row (a.tmps.getD d undef) E sz l2) os ms) : RunD P c ops Q Γ Hf (⟨some d, .call ⟨.builtin .append, #[y, z], #[T, T]⟩, ty, p, af, none⟩ :: os) (([k], some (k, [d])) :: ms) :=
  RunD.cons (u := some ⟨k, [d], fun a => Own.row (a.tmps.getD d undef) E sz l2⟩) (x := AV.slc) (dep_one (g := fun v => Own.row v E sz l2) fun v v' e => e ▸ rfl) (fun F W0 I0 I a w Q hs kk => by
    have hbare : Bare (a.eval y) := hy I a hs.env rfl
    have hlen := List.getElem?_eq_some_iff.1 (mix_at (a := a) (F := F) hk)
    have hs1 := (hs.own0 (sz := sz) E hbare).into k (mix_at (a := a) (F := F) hk)
    have hk1 : ((mix [k] a F 0 Hf).set k (Own.row (a.eval y) E sz []))[k]? = some (Own.row (a.eval y) E sz []) := by rw [List.getElem?_set_self hlen.1]
    obtain ⟨v', w', hr, hs'⟩ := hs1.appendRow (ty := ty) k hU hE hzs hk1 (hz I a hs.env rfl) (by simpa using hb.1) (by simp only [maxLen]; simp; omega)
    rw [List.set_set, List.nil_append] at hs'
    refine wpList_here rfl ?_
    unfold Oper.wp
    simp only [execOp, resolve, invoke, builtin, Sem.run_bind, Sem.run_pure, Result.andThen_ok, List.map_toArray, List.map_cons, List.map_nil, hr]
    have hrow := hs'.own.all (Own.row v' E sz l2) (List.mem_of_getElem? (i := k) (by rw [List.getElem?_set_self hlen.1]))
    have h1 : v'.oneCell' = true := by
      obtain ⟨_, ⟨_, rfl | ⟨q, rfl, _⟩⟩ | ⟨b, cap, cur, rfl, _⟩⟩ := hrow.1 <;> rfl
    have hs4 := hs'.put0 (d := d) (v := v') (x := AV.slc) hs'.step (Im.le_refl _) hs'.own hd h1
    refine kk I _ w' (hs4.pass (mix_set (a' := a.put (some d) v') (f := fun a => Own.row (a.tmps.getD d undef) E sz l2) ?_))
    have : (a.put (some d) v').tmps.getD d undef = v' := by
      have hd' : d < c.n := by simpa using hd
      have hsz := hs.size
      simp [Act.put, hsz, hd']
    rw [this]) r
end
end Go.Proofs.YtkoebplikhlapaaGreatDoor
