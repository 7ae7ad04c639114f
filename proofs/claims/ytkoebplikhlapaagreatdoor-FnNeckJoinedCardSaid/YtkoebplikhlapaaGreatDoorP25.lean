/- Part 25: rules of the proofs, contracts of functions, plain facts. -/
import Derived.Test.YtkoebplikhlapaaGreatDoorP24
set_option linter.unusedVariables false
set_option linter.unusedSimpArgs false
set_option maxRecDepth 100000
namespace Go.Proofs.YtkoebplikhlapaaGreatDoor
open Go Go.RowKit
theorem memF {α : Type} {p : α → Bool} {l : List α} {x : α} (h : x ∈ l.filter p) : x ∈ l := (List.mem_filter.1 h).1
theorem SrvOk.knows_add {s : Server} (h : SrvOk s) {d : Dep} (hl : s.knows.length < 80) : SrvOk { s with knows := addD s.knows d } := ⟨h.slots, h.vers, h.waits, h.apart, by have := addD_len s.knows d; show (addD s.knows d).length ≤ 80; omega⟩
theorem SrvOk.drop {s : Server} (h : SrvOk s) (slot : Int) : SrvOk (dropS s slot) :=
  ⟨h.slots, chain_sub h.vers (List.filter_sublist), chain_sub h.waits (List.filter_sublist), fun v hv => place_none fun x hx => place_neg (h.apart v (memF hv)) x (memF hx), h.knows⟩
theorem SrvOk.slots_set {s : Server} (h : SrvOk s) {x : List Slot} (hx : x.length = 3) : SrvOk { s with slots := x } := ⟨hx, h.vers, h.waits, h.apart, h.knows⟩
theorem SrvOk.gone {s : Server} (h : SrvOk s) (m : Word) : SrvOk (goneS s m) := (h.drop m.slot).slots_set (by show (s.slots.set _ _).length = 3; rw [List.length_set]; exact h.slots)
theorem SrvOk.waits_put {s : Server} (h : SrvOk s) {v : Ver} (hc : canPut s.waits v = true) (hp : placeOf s.vers v.dep < 0) : SrvOk { s with waits := insV s.waits v } := by
  obtain ⟨h1, h2, h3⟩ := canPut_parts hc
  refine ⟨h.slots, h.vers, chain_ins h.waits h1 h2 h3, fun x hx => ?_, h.knows⟩
  rcases insV_mem.1 hx with rfl | hx
  · exact hp
  · exact h.apart x hx
theorem depI_lt {l : List Dep} {d : Dep} (h : 0 ≤ depI l d) : (depI l d).toNat < l.length := by
  unfold depI idxI at *
  split at h
  · rename_i k hk
    obtain ⟨h1, _⟩ := List.findIdx?_eq_some_iff_getElem.1 hk
    simpa using h1
  · omega
theorem wordOk_key {m : Word} (h : wordOk m = true) : keyB m.key = true := by
  simp only [wordOk, Bool.and_eq_true] at h; exact h.1.1.1.1.1.1.1.1.2
theorem wordOk_slot {m : Word} (h : wordOk m = true) : 0 ≤ m.slot ∧ m.slot < 3 := by
  simp only [wordOk, Bool.and_eq_true, inB, decide_eq_true_eq] at h; omega
theorem wordOk_lists {m : Word} (h : wordOk m = true) : chainOk m.vers = true ∧ chainOk m.waits = true ∧ debtsOk m.owes = true ∧ depsOk m.deps = true := by
  simp only [wordOk, Bool.and_eq_true] at h; exact ⟨h.1.1.2, h.1.2, h.2, h.1.1.1.1.1.2⟩
theorem hasB_iff {α : Type} [Inhabited α] {p : α → Bool} {l : List α} : hasB p l = true ↔ ∃ x ∈ l, p x = true := ⟨hasB_mem, fun ⟨_, hx, hp⟩ => mem_hasB hx hp⟩
theorem hasB_none {α : Type} [Inhabited α] {p : α → Bool} {l : List α} : hasB p l = false ↔ ∀ x ∈ l, p x = false := by
  rw [← Bool.not_eq_true, hasB_iff]
  exact ⟨fun h x hx => by cases hp : p x; rfl; exact absurd ⟨x, hx, hp⟩ h, fun h ⟨x, hx, hp⟩ => by rw [h x hx] at hp; cases hp⟩
theorem allN_mem {α : Type} [Inhabited α] {p : α → Bool} {l : List α} : (allN l.length fun i => p (elt l i)) = true ↔ ∀ x ∈ l, p x = true := by
  rw [allN_iff]
  exact ⟨fun h x hx => by obtain ⟨k, hk, rfl⟩ := mem_elt hx; exact h k hk, fun h i hi => h _ (elt_mem hi)⟩
theorem place_iff {l : List Ver} {d : Dep} : 0 ≤ placeOf l d ↔ ∃ x ∈ l, x.dep = d := by
  constructor
  · intro h
    obtain ⟨h1, h2⟩ := place_hit h
    exact ⟨_, elt_mem h1, h2⟩
  · rintro ⟨x, hx, he⟩
    apply Int.not_lt.1
    intro hn
    exact place_neg hn x hx he
theorem place_neg_iff {l : List Ver} {d : Dep} : placeOf l d < 0 ↔ ∀ x ∈ l, x.dep ≠ d := ⟨place_neg, place_none⟩
theorem hasAll_iff {l : List Ver} {ds : List Dep} : hasAll l ds = true ↔ ∀ d ∈ ds, ∃ x ∈ l, x.dep = d := by
  unfold hasAll
  rw [Bool.not_eq_true', hasB_none]
  refine forall_congr' fun d => forall_congr' fun hd => ?_
  rw [← place_iff]
  unfold missing
  simp
structure SrvGood (s : Server) : Prop where
  site : siteB s.site = true
  slots : s.slots.length = 3
  vers : chainOk s.vers = true
  waits : chainOk s.waits = true
  owes : debtsOk s.owes = true
  knows : debtsOk s.knows = true
  up : s.up = false → s.knows = []
  good : ∀ x ∈ s.slots, slotGood x = true
  here : ∀ v ∈ s.vers, standOf s v.key ≠ 0
  hereW : ∀ v ∈ s.waits, standOf s v.key ≠ 0
  far : ∀ v ∈ s.waits, siteSide v.stamp.site ≠ siteSide s.site
  apart : ∀ v ∈ s.waits, ∀ x ∈ s.vers, x.dep ≠ v.dep
  owed : ∀ d ∈ s.owes, ∃ x ∈ s.vers, x.dep = d
theorem serverOk_iff {s : Server} : serverOk s = true ↔ SrvGood s := by
  have e1 : (allN s.slots.length (slotAt s)) = true ↔ ∀ x ∈ s.slots, slotGood x = true := by
    have e : slotAt s = fun i => slotGood (elt s.slots i) := by funext i; unfold slotAt; rfl
    rw [e]; exact allN_mem
  have e2 : (allN s.vers.length (verAt s)) = true ↔ ∀ x ∈ s.vers, (standOf s x.key != 0) = true := by
    have e : verAt s = fun i => (fun v : Ver => standOf s v.key != 0) (elt s.vers i) := by funext i; unfold verAt; rfl
    rw [e]; exact allN_mem (p := fun v : Ver => standOf s v.key != 0)
  have e3 : (allN s.waits.length (waitAt s)) = true ↔ ∀ x ∈ s.waits, waitGood s x = true := by
    have e : waitAt s = fun i => waitGood s (elt s.waits i) := by funext i; unfold waitAt; rfl
    rw [e]; exact allN_mem
  have eu : (!(!s.up && decide (0 < s.knows.length))) = true ↔ (s.up = false → s.knows = []) := by
    cases s.up <;> simp
  unfold serverOk serverHead
  simp only [Bool.and_eq_true, decide_eq_true_eq]
  rw [e1, e2, e3, hasAll_iff, eu]
  constructor
  · rintro ⟨⟨⟨⟨⟨⟨⟨⟨⟨⟨a1, a2⟩, a3⟩, a4⟩, a5⟩, a6⟩, a7⟩, a8⟩, a9⟩, a10⟩, a11⟩
    refine ⟨a1, a2, a3, a4, a5, a6, a7, a8, fun v hv => by simpa using a9 v hv, fun v hv => ?_, fun v hv => ?_, fun v hv => ?_, a11⟩ <;>
      have := a10 v hv <;> simp only [waitGood, Bool.and_eq_true, decide_eq_true_eq, place_neg_iff, bne_iff_ne] at this
    · exact this.1.1
    · exact this.1.2
    · exact this.2
  · intro h
    refine ⟨⟨⟨⟨⟨⟨⟨⟨⟨⟨h.site, h.slots⟩, h.vers⟩, h.waits⟩, h.owes⟩, h.knows⟩, h.up⟩, h.good⟩, fun v hv => by simpa using h.here v hv⟩, fun v hv => ?_⟩, h.owed⟩
    simp only [waitGood, Bool.and_eq_true, decide_eq_true_eq, place_neg_iff, bne_iff_ne]
    exact ⟨⟨h.hereW v hv, h.far v hv⟩, h.apart v hv⟩
theorem SrvGood.ok {s : Server} (h : SrvGood s) : SrvOk s := serverOk_sok (serverOk_iff.2 h)
theorem placeOf_insV {l : List Ver} {v : Ver} {d : Dep} (h : ∃ x ∈ l, x.dep = d) : ∃ x ∈ insV l v, x.dep = d := let ⟨x, hx, e⟩ := h; ⟨x, insV_mem.2 (.inr hx), e⟩
theorem insD_mem : ∀ {l : List Dep} {d x : Dep}, x ∈ insD l d ↔ x = d ∨ x ∈ l
  | [], d, x => by simp [insD]
  | e :: r, d, x => by
    unfold insD
    split
    · simp
    · rw [List.mem_cons, insD_mem, List.mem_cons]
      constructor
      · rintro (h | h | h) <;> simp [h]
      · rintro (h | h | h) <;> simp [h]
theorem insD_sorted : ∀ {l : List Dep} {d : Dep}, (l.Pairwise fun a b => depLess a b = true) → (∀ x ∈ l, x ≠ d) → (insD l d).Pairwise fun a b => depLess a b = true
  | [], d, _, _ => by simp [insD]
  | e :: r, d, h, hn => by
    unfold insD
    rw [List.pairwise_cons] at h
    split
    · rename_i hl
      rw [List.pairwise_cons]
      refine ⟨fun x hx => ?_, List.pairwise_cons.2 h⟩
      rcases List.mem_cons.1 hx with rfl | hx
      · exact hl
      · exact depLess_trans hl (h.1 x hx)
    · rename_i hl
      rw [List.pairwise_cons]
      refine ⟨fun x hx => ?_, insD_sorted h.2 fun x hx => hn x (by simp [hx])⟩
      rcases insD_mem.1 hx with rfl | hx
      · cases hd : depLess e x with
        | true => rfl
        | false => exact absurd (dep_total hd (by simpa using hl)) (hn e (by simp))
      · exact h.1 x hx
theorem depI_iff {l : List Dep} {d : Dep} : 0 ≤ depI l d ↔ d ∈ l := by
  have := hasB_iff (p := fun e => decide (e = d)) (l := l)
  unfold hasB at this
  simp only [decide_eq_true_eq] at this
  unfold depI
  rw [this]
  exact ⟨fun ⟨x, hx, e⟩ => e ▸ hx, fun h => ⟨d, h, rfl⟩⟩
theorem addD_mem {l : List Dep} {d x : Dep} : x ∈ addD l d ↔ x = d ∨ x ∈ l := by
  unfold addD
  split
  · rename_i h
    exact ⟨.inr, fun h' => h'.elim (fun e => e ▸ depI_iff.1 h) id⟩
  · exact insD_mem
theorem debts_add {l : List Dep} {d : Dep} (h : debtsOk l = true) (hd : debtOk d = true) (hl : l.length < 80) : debtsOk (addD l d) = true := by
  obtain ⟨h1, h2, h3⟩ := debts_iff.1 h
  unfold addD
  split
  · exact h
  · rename_i hn
    refine debts_iff.2 ⟨by rw [insD_len]; omega, fun x hx => ?_, insD_sorted h3 fun x hx e => hn (depI_iff.2 (e ▸ hx))⟩
    rcases insD_mem.1 hx with rfl | hx
    · exact hd
    · exact h2 x hx
theorem mem_without {α : Type} {l : List α} {n : Nat} {x : α} (h : x ∈ l.take n ++ l.drop (n + 1)) : x ∈ l := (without_sub l n).subset h
theorem SrvGood.see {s : Server} (h : SrvGood s) (hp : 0 ≤ pickS s) : SrvGood (seeS s (pickS s).toNat) := by
  obtain ⟨hl, h80, hg⟩ := pickS_lt hp
  have hm := elt_mem hl
  have hok := h.ok.see hp
  refine ⟨h.site, h.slots, hok.vers, hok.waits, h.owes, h.knows, h.up, h.good, fun v hv => ?_, fun v hv => h.hereW v (mem_without hv), fun v hv => h.far v (mem_without hv), fun v hv => place_neg (hok.apart v hv), fun d hd => placeOf_insV (h.owed d hd)⟩
  rcases insV_mem.1 hv with rfl | hv
  · exact h.hereW _ hm
  · exact h.here v hv
theorem SrvGood.seesN : ∀ (n : Nat) {s : Server}, SrvGood s → SrvGood (seesN n s)
  | 0, _, h => h
  | n + 1, s, h => by
    unfold Go.Proofs.YtkoebplikhlapaaGreatDoor.seesN
    split
    · exact h
    · exact SrvGood.seesN n (h.see (by omega))
theorem SrvGood.sees {s : Server} (h : SrvGood s) : SrvGood (seesS s) := SrvGood.seesN _ h
theorem SrvGood.keep {s : Server} (h : SrvGood s) : SrvGood (keepS s) :=
  ⟨h.site, h.slots, h.vers, h.waits, h.owes, debts_sub h.knows List.filter_sublist, fun e => by show s.knows.filter _ = []; rw [h.up e]; rfl, h.good, h.here, h.hereW, h.far, h.apart, h.owed⟩
theorem SrvGood.settle {s : Server} (h : SrvGood s) : SrvGood (settleS s) := h.sees.keep
theorem seesS_same (s : Server) : (seesS s).site = s.site ∧ (seesS s).up = s.up ∧ (seesS s).slots = s.slots ∧ (seesS s).owes = s.owes ∧ (seesS s).knows = s.knows := seesN_same _ s
theorem settleS_same (s : Server) : (settleS s).site = s.site ∧ (settleS s).up = s.up ∧ (settleS s).slots = s.slots ∧ (settleS s).owes = s.owes := by
  obtain ⟨a, b, d, e, _⟩ := seesS_same s
  exact ⟨a, b, d, e⟩
theorem SrvGood.dropS {s : Server} (h : SrvGood s) (slot : Int) : SrvGood (dropS s slot) := by
  have hok := h.ok.drop slot
  refine ⟨h.site, h.slots, hok.vers, hok.waits, debts_sub h.owes List.filter_sublist, h.knows, h.up, h.good, fun v hv => h.here v (memF hv), fun v hv => h.hereW v (memF hv), fun v hv => h.far v (memF hv),
    fun v hv x hx => h.apart v (memF hv) x (memF hx), fun d hd => ?_⟩
  obtain ⟨h1, h2⟩ := List.mem_filter.1 hd
  obtain ⟨x, hx, e⟩ := h.owed d h1
  refine ⟨x, List.mem_filter.2 ⟨hx, ?_⟩, e⟩
  subst e; exact h2
theorem standOf_set {s : Server} {slot : Int} {y : Slot} {key : Int} (h : verSlot key ≠ slot) (h0 : 0 ≤ slot) (hk : keyB key = true) : standOf { s with slots := s.slots.set slot.toNat y } key = standOf s key := by
  have hr := verSlot_range hk
  unfold standOf elt
  simp only [List.getD_eq_getElem?_getD]
  rw [List.getElem?_set_ne (by omega)]
theorem standOf_set_same {s : Server} {slot : Int} {y : Slot} {key : Int} (h : verSlot key = slot) (h0 : 0 ≤ slot) (h3 : slot < s.slots.length) : standOf { s with slots := s.slots.set slot.toNat y } key = y.stand := by
  unfold standOf elt
  simp only [List.getD_eq_getElem?_getD, h]
  rw [List.getElem?_set_self (by omega)]; rfl
theorem dropS_slot {s : Server} {slot : Int} : (∀ v ∈ (Go.Proofs.YtkoebplikhlapaaGreatDoor.dropS s slot).vers, verSlot v.key ≠ slot) ∧ (∀ v ∈ (Go.Proofs.YtkoebplikhlapaaGreatDoor.dropS s slot).waits, verSlot v.key ≠ slot) := by
  constructor <;> intro v hv <;> have := (List.mem_filter.1 hv).2 <;> simpa [slotIs] using this
theorem SrvGood.setSlot {s : Server} (h : SrvGood s) {slot : Int} {y : Slot} (h0 : 0 ≤ slot) (hy : slotGood y = true) (hv : ∀ v ∈ s.vers, verSlot v.key = slot → y.stand ≠ 0) (hw : ∀ v ∈ s.waits, verSlot v.key = slot → y.stand ≠ 0) (h3 : slot < 3) : SrvGood { s with slots := s.slots.set slot.toNat y } := by
  have key : ∀ v : Ver, verOk v = true → standOf s v.key ≠ 0 → (verSlot v.key = slot → y.stand ≠ 0) → standOf { s with slots := s.slots.set slot.toNat y } v.key ≠ 0 := fun v hvo h1 h2 => by
    by_cases hs : verSlot v.key = slot
    · rw [standOf_set_same hs h0 (by rw [h.slots]; omega)]; exact h2 hs
    · rw [standOf_set hs h0 (verOk_key hvo)]; exact h1
  refine ⟨h.site, by show (s.slots.set _ _).length = 3; rw [List.length_set]; exact h.slots, h.vers, h.waits, h.owes, h.knows, h.up, fun x hx => ?_, fun v hvm => key v (chain_all h.vers v hvm) (h.here v hvm) (hv v hvm), fun v hvm => key v (chain_all h.waits v hvm) (h.hereW v hvm) (hw v hvm), h.far, h.apart, h.owed⟩
  rcases List.mem_or_eq_of_mem_set hx with hx | rfl
  · exact h.good x hx
  · exact hy
theorem slotGood_iff {x : Slot} : slotGood x = true ↔ 0 ≤ x.epoch ∧ x.epoch ≤ 9999 ∧ 0 ≤ x.stand ∧ x.stand ≤ 2 ∧ (x.stand ≠ 0 → x.epoch ≠ 0) := by
  unfold slotGood inB
  simp only [Bool.and_eq_true, decide_eq_true_eq, Bool.not_eq_true', Bool.and_eq_false_iff, bne_eq_false_iff_eq, beq_eq_false_iff_ne]
  constructor
  · rintro ⟨⟨⟨a, b⟩, d, e⟩, f⟩; exact ⟨a, b, d, e, fun h => f.resolve_left h⟩
  · rintro ⟨a, b, d, e, f⟩; exact ⟨⟨⟨a, b⟩, d, e⟩, by by_cases h : x.stand = 0; exact .inl h; exact .inr (f h)⟩
theorem wordOk_parts {m : Word} (h : wordOk m = true) : (1 ≤ m.kind ∧ m.kind ≤ 10) ∧ addressB m.frm = true ∧ addressB m.to = true ∧ (0 ≤ m.call ∧ m.call ≤ 99) ∧ keyB m.key = true ∧ stampFits m.stamp = true ∧ (0 ≤ m.val ∧ m.val ≤ 9999) ∧ depsOk m.deps = true ∧ (0 ≤ m.slot ∧ m.slot ≤ 2) ∧ (0 ≤ m.epoch ∧ m.epoch ≤ 9999) ∧ chainOk m.vers = true ∧ chainOk m.waits = true ∧ debtsOk m.owes = true := by
  simp only [wordOk, Bool.and_eq_true, inB, decide_eq_true_eq] at h
  obtain ⟨⟨⟨⟨⟨⟨⟨⟨⟨⟨⟨⟨a1, a2⟩, a3⟩, a4⟩, a5⟩, a6⟩, a7⟩, a8⟩, a9⟩, a10⟩, a11⟩, a12⟩, a13⟩ := h
  exact ⟨a1, a2, a3, a4, a5, a6, a7, a8, a9, a10, a11, a12, a13⟩
theorem owns_stand {s : Server} {key : Int} (h : ownsS s key = true) : keyB key = true ∧ standOf s key = 1 := by
  unfold ownsS at h; rw [Bool.and_eq_true] at h; exact ⟨h.1, by simpa using h.2⟩
theorem depsOk_debt {l : List Dep} (h : depsOk l = true) : ∀ d ∈ l, debtOk d = true := fun d hd => depsOk_all h hd
theorem stampNext_ok {site : Int} {l : List Stamp} (hn : siteB site = true) (hl : ∀ s ∈ l, stampOk s = true) (ho : nextOk l = true) : stampOk (nextS site l) = true ∧ (nextS site l).site = site ∧ ∀ s ∈ l, s.time < (nextS site l).time := by
  have hr := maxT_le hl l.length
  rw [List.take_length] at hr
  have hm : maxT l < 9999 := by simpa [nextOk] using ho
  have hle : ∀ (l : List Stamp) (t : Int), t ≤ l.foldl (fun t s => if t < s.time then s.time else t) t ∧ ∀ s ∈ l, s.time ≤ l.foldl (fun t s => if t < s.time then s.time else t) t := by
    intro l
    induction l with
    | nil => intro t; simp
    | cons a r ih =>
      intro t
      rw [List.foldl_cons]
      have h1 := ih (if t < a.time then a.time else t)
      have h2 : t ≤ (if t < a.time then a.time else t) ∧ a.time ≤ (if t < a.time then a.time else t) := by split <;> omega
      refine ⟨by omega, fun s hs => ?_⟩
      rcases List.mem_cons.1 hs with rfl | hs
      · omega
      · exact h1.2 s hs
  unfold nextS
  rw [ho, if_pos rfl]
  refine ⟨by simp [stampOk, inB, hn]; omega, rfl, fun s hs => ?_⟩
  have := (hle l 0).2 s hs
  show s.time < maxT l + 1
  unfold maxT; omega
theorem putStamps_ok {s : Server} {m : Word} (h : SrvGood s) (hm : wordOk m = true) : ∀ x ∈ putStamps s m, stampOk x = true := by
  intro x hx
  unfold putStamps at hx
  rcases List.mem_append.1 hx with hx | hx
  · obtain ⟨d, hd, rfl⟩ := List.mem_map.1 hx
    have := depsOk_debt (wordOk_parts hm).2.2.2.2.2.2.2.1 d hd
    simp only [debtOk, Bool.and_eq_true] at this; exact this.2
  · split at hx
    · rename_i v hv
      obtain rfl : x = v.stamp := by simpa using hx
      exact (verOk_parts (chain_all h.vers v (topV_mem hv).1)).2.1
    · simp at hx
theorem putV_dep {s : Server} {m : Word} (h : SrvGood s) (hm : wordOk m = true) (ho : nextOk (putStamps s m) = true) : (putV s m).stamp.site = s.site ∧ stampOk (putV s m).stamp = true ∧ ∀ x ∈ putStamps s m, x.time < (putV s m).stamp.time := by
  obtain ⟨h1, h2, h3⟩ := stampNext_ok h.site (putStamps_ok h hm) ho
  exact ⟨h2, h1, h3⟩
theorem SrvGood.put {s : Server} (h : SrvGood s) {v : Ver} (hc : canPut s.vers v = true) (hs : siteSide v.stamp.site = siteSide s.site) (hst : standOf s v.key ≠ 0) (hl : s.owes.length < 80) : SrvGood { s with vers := insV s.vers v, owes := addD s.owes v.dep } := by
  obtain ⟨h1, h2, h3⟩ := canPut_parts hc
  have hp := verOk_parts h1
  refine ⟨h.site, h.slots, chain_ins h.vers h1 h2 h3, h.waits, debts_add h.owes (by simp only [debtOk, Bool.and_eq_true]; exact ⟨hp.1, hp.2.1⟩) hl, h.knows, h.up, h.good, fun x hx => ?_, h.hereW, h.far, fun w hw x hx => ?_, fun d hd => ?_⟩
  · rcases insV_mem.1 hx with rfl | hx
    · exact hst
    · exact h.here x hx
  · rcases insV_mem.1 hx with rfl | hx
    · intro e
      have := h.far w hw
      have e2 : w.stamp = x.stamp := by have := congrArg Dep.stamp e; exact this.symm
      rw [e2] at this; exact this hs
    · exact h.apart w hw x hx
  · rcases addD_mem.1 hd with rfl | hd
    · exact ⟨v, insV_mem.2 (.inl rfl), rfl⟩
    · exact placeOf_insV (h.owed d hd)
theorem hearPut_good {s : Server} {m : Word} (h : SrvGood s) (hm : wordOk m = true) : SrvGood (hearPut s m).1 := by
  unfold hearPut
  split
  · rename_i hc
    simp only [Bool.and_eq_true, decide_eq_true_eq] at hc
    split
    · exact h
    · split
      · rename_i hk
        simp only [Bool.and_eq_true, decide_eq_true_eq] at hk
        obtain ⟨a1, a2, a3⟩ := putV_dep h hm hk.1.1
        exact (h.put hk.1.2 (by rw [a1]) (by show standOf s m.key ≠ 0; rw [(owns_stand hc.2).2]; omega) hk.2).settle
      · exact h
  · exact h
theorem SrvGood.wait {s : Server} (h : SrvGood s) {v : Ver} (hc : canPut s.waits v = true) (hp : placeOf s.vers v.dep < 0) (hf : siteSide v.stamp.site ≠ siteSide s.site) (hst : standOf s v.key ≠ 0) : SrvGood { s with waits := insV s.waits v } := by
  have hok := h.ok.waits_put hc hp
  refine ⟨h.site, h.slots, h.vers, hok.waits, h.owes, h.knows, h.up, h.good, h.here, fun x hx => ?_, fun x hx => ?_, fun x hx => place_neg (hok.apart x hx), h.owed⟩
  · rcases insV_mem.1 hx with rfl | hx
    · exact hst
    · exact h.hereW x hx
  · rcases insV_mem.1 hx with rfl | hx
    · exact hf
    · exact h.far x hx
theorem repOk_parts {s : Server} {m : Word} (h : repOk s m = true) : siteB m.frm = true ∧ siteSide m.frm ≠ siteSide s.site ∧ m.vers.length = 1 ∧ ownsS s (elt m.vers 0).key = true ∧ siteSide (elt m.vers 0).stamp.site ≠ siteSide s.site := by
  unfold repOk at h
  simp only [Bool.and_eq_true, decide_eq_true_eq, bne_iff_ne] at h
  exact ⟨h.1.1.1.1, h.1.1.1.2, h.1.1.2, h.1.2, h.2⟩
theorem hearRep_good {s : Server} {m : Word} (h : SrvGood s) : SrvGood (hearRep s m).1 := by
  unfold hearRep
  split
  · rename_i hr
    obtain ⟨_, _, _, ho, hf⟩ := repOk_parts hr
    dsimp only
    split
    · rename_i hn
      split
      · rename_i hc
        exact (h.wait hc hn.1 hf (by rw [(owns_stand ho).2]; omega)).settle
      · exact h
    · exact h.settle
  · exact h
theorem hearPaid_good {s : Server} {m : Word} (h : SrvGood s) : SrvGood (hearPaid s m) := by
  unfold hearPaid
  split
  · exact ⟨h.site, h.slots, h.vers, h.waits, debts_sub h.owes (without_sub _ _), h.knows, h.up, h.good, h.here, h.hereW, h.far, h.apart, fun d hd => h.owed d (mem_without hd)⟩
  · exact h
theorem SrvGood.know {s : Server} (h : SrvGood s) {d : Dep} (hd : debtOk d = true) (hl : s.knows.length < 80) (hu : s.up = true) : SrvGood { s with knows := addD s.knows d } :=
  ⟨h.site, h.slots, h.vers, h.waits, h.owes, debts_add h.knows hd hl, (fun e => by rw [hu] at e; cases e), h.good, h.here, h.hereW, h.far, h.apart, h.owed⟩
theorem wantedS_iff {s : Server} {d : Dep} : wantedS s d = true ↔ ∃ v ∈ s.waits, d ∈ v.deps := by
  unfold wantedS
  rw [Bool.not_eq_true', ← Bool.not_eq_true, allN_mem (p := fun v => !wantV d v)]
  have e : ∀ v : Ver, (!wantV d v) = true ↔ d ∉ v.deps := fun v => by
    unfold wantV
    rw [Bool.not_eq_true', decide_eq_false_iff_not, depI_iff]
  constructor
  · intro h
    apply Classical.byContradiction
    intro hn
    exact h fun x hx => (e x).2 fun hd => hn ⟨x, hx, hd⟩
  · rintro ⟨v, hv, hd⟩ h
    exact (e v).1 (h v hv) hd
theorem hearHave_good {s : Server} {m : Word} (h : SrvGood s) (hu : s.up = true) : SrvGood (hearHave s m) := by
  unfold hearHave
  split
  · rename_i hc
    simp only [Bool.and_eq_true, decide_eq_true_eq] at hc
    obtain ⟨v, hv, hd⟩ := wantedS_iff.1 hc.1.2
    exact (h.know (depsOk_debt (verOk_parts (chain_all h.waits v hv)).2.2 _ hd) hc.2 hu).settle
  · exact h
theorem slotGood_elt {s : Server} (h : SrvGood s) {i : Nat} (hi : i < 3) : slotGood (elt s.slots i) = true := h.good _ (elt_mem (by rw [h.slots]; exact hi))
theorem goneS_good {s : Server} {m : Word} (h : SrvGood s) (hm : wordOk m = true) : SrvGood (goneS s m) := by
  have hs := (wordOk_parts hm).2.2.2.2.2.2.2.2
  refine (h.dropS m.slot).setSlot hs.1.1 ?_ (fun v hv e => absurd e (dropS_slot.1 v hv)) (fun v hv e => absurd e (dropS_slot.2 v hv)) (by omega)
  rw [slotGood_iff]
  exact ⟨hs.2.1.1, hs.2.1.2, by simp, by simp, fun e => absurd rfl e⟩
theorem hearGone_good {s : Server} {m : Word} (h : SrvGood s) (hm : wordOk m = true) : SrvGood (hearGone s m) := by
  unfold hearGone
  split
  · exact (goneS_good h hm).settle
  · exact h
theorem hearBulk_good {s : Server} {m : Word} (h : SrvGood s) : SrvGood (hearBulk s m).1 := by
  unfold hearBulk
  split
  · split
    · exact h
    · split
      · rename_i hc
        simp only [Bool.and_eq_true] at hc
        exact (serverOk_iff.1 hc.2).settle
      · exact h
  · exact h
theorem hearS_good {s : Server} {m : Word} (h : SrvGood s) (hm : wordOk m = true) (hu : s.up = true) : SrvGood (hearS s m).1 := by
  unfold hearS
  repeat' split
  · exact hearPut_good h hm
  · exact h
  · exact hearRep_good h
  · exact hearPaid_good h
  · exact h
  · exact hearHave_good h hu
  · exact hearBulk_good h
  · exact hearGone_good h hm
  · exact h
theorem serverHear_good {s : Server} {m : Word} (h : SrvGood s) : SrvGood (serverHear s m).1 := by
  unfold serverHear
  split
  · rename_i hc
    simp only [Bool.and_eq_true] at hc
    exact hearS_good h hc.1.2 hc.1.1
  · exact h
theorem riseS_good {s : Server} (h : SrvGood s) : SrvGood (riseS s) := ⟨h.site, h.slots, h.vers, h.waits, h.owes, h.knows, fun e => (by cases e), h.good, h.here, h.hereW, h.far, h.apart, h.owed⟩
theorem fallS_good {s : Server} (h : SrvGood s) : SrvGood (fallS s) := ⟨h.site, h.slots, h.vers, h.waits, h.owes, rfl, fun _ => rfl, h.good, h.here, h.hereW, h.far, h.apart, h.owed⟩
theorem moveOk_parts {s : Server} {slot : Int} (h : moveOk s slot = true) : s.up = true ∧ 0 ≤ slot ∧ slot ≤ 2 ∧ (elt s.slots slot.toNat).stand = 1 ∧ (elt s.slots slot.toNat).epoch < 9999 := by
  unfold moveOk inB at h
  simp only [Bool.and_eq_true, decide_eq_true_eq] at h
  exact ⟨h.1.1.1, h.1.1.2.1, h.1.1.2.2, by simpa using h.1.2, h.2⟩
theorem movedS_good {s : Server} {slot : Int} (h : SrvGood s) (hk : moveOk s slot = true) : SrvGood (movedS s slot) := by
  obtain ⟨_, h1, h2, h3, h4⟩ := moveOk_parts hk
  have hg := slotGood_iff.1 (slotGood_elt h (i := slot.toNat) (by omega))
  refine h.setSlot h1 ?_ (fun v _ _ => by simp) (fun v _ _ => by simp) (by omega)
  rw [slotGood_iff]
  exact ⟨by simp; omega, by simp; omega, by simp, by simp, fun _ => by simp; omega⟩
theorem wordOk_intro {m : Word} (h1 : 1 ≤ m.kind ∧ m.kind ≤ 10) (h2 : addressB m.frm = true) (h3 : addressB m.to = true) (h4 : 0 ≤ m.call ∧ m.call ≤ 99) (h5 : keyB m.key = true) (h6 : stampFits m.stamp = true) (h7 : 0 ≤ m.val ∧ m.val ≤ 9999) (h8 : depsOk m.deps = true) (h9 : 0 ≤ m.slot ∧ m.slot ≤ 2)
    (h10 : 0 ≤ m.epoch ∧ m.epoch ≤ 9999) (h11 : chainOk m.vers = true) (h12 : chainOk m.waits = true) (h13 : debtsOk m.owes = true) : wordOk m = true := by
  simp only [wordOk, Bool.and_eq_true, inB, decide_eq_true_eq]
  exact ⟨⟨⟨⟨⟨⟨⟨⟨⟨⟨⟨⟨h1, h2⟩, h3⟩, h4⟩, h5⟩, h6⟩, h7⟩, h8⟩, h9⟩, h10⟩, h11⟩, h12⟩, h13⟩
theorem site_address {n : Int} (h : siteB n = true) : addressB n = true := by unfold addressB; rw [h]; rfl
theorem siteB_iff {n : Int} : siteB n = true ↔ 0 ≤ n ∧ n ≤ 3 := by simp [siteB, inB]
theorem twin_site {n : Int} (h : siteB n = true) : siteB (twinI n) = true := by
  rw [siteB_iff] at *
  unfold twinI; split <;> omega
theorem chain_nil : chainOk [] = true := rfl
theorem debts_nil : debtsOk [] = true := rfl
theorem chain_one {v : Ver} (h : verOk v = true) : chainOk [v] = true := chain_iff.2 ⟨by simp, by simpa using h, by simp [VS]⟩
theorem chain_opt {o : Option Ver} (h : ∀ v, o = some v → verOk v = true) : chainOk o.toList = true := by
  cases o with
  | none => rfl
  | some v => exact chain_one (h v rfl)
theorem stamp_fits {s : Stamp} (h : stampOk s = true) : stampFits s = true := by unfold stampFits; rw [h]; simp
theorem key0 : keyB 0 = true := rfl
theorem fits0 : stampFits ⟨0, 0⟩ = true := rfl
theorem deps0 : depsOk [] = true := rfl
theorem putW_ok {s : Server} {m : Word} (h : SrvGood s) (hm : wordOk m = true) {st : Stamp} (hs : stampOk st = true) : wordOk (putW s m st) = true := by
  have p := wordOk_parts hm
  exact wordOk_intro ⟨by simp [putW], by simp [putW]⟩ (site_address h.site) p.2.1 p.2.2.2.1 p.2.2.2.2.1 (stamp_fits hs) ⟨by simp [putW, word0], by simp [putW, word0]⟩ deps0 ⟨by simp [putW, word0], by simp [putW, word0]⟩ ⟨by simp [putW, word0], by simp [putW, word0]⟩ chain_nil chain_nil debts_nil
theorem calledS_mem {s : Server} {key client call : Int} {v : Ver} (h : calledS s key client call = some v) : v ∈ s.vers ∧ v.key = key ∧ v.client = client ∧ v.call = call ∧ siteSide v.stamp.site = siteSide s.site := by
  have h1 := List.mem_of_find?_eq_some h
  have h2 := List.find?_some h
  simp only [calledB, Bool.and_eq_true, beq_iff_eq] at h2
  exact ⟨h1, h2.1.1.1, h2.1.1.2, h2.1.2, h2.2⟩
theorem hearPut_words {s : Server} {m : Word} (h : SrvGood s) (hm : wordOk m = true) : ∀ w ∈ (hearPut s m).2, wordOk w = true := by
  unfold hearPut
  split
  · split
    · rename_i v hv
      intro w hw
      obtain rfl : w = _ := by simpa using hw
      exact putW_ok h hm (verOk_parts (chain_all h.vers v (calledS_mem hv).1)).2.1
    · split
      · rename_i hk
        simp only [Bool.and_eq_true, decide_eq_true_eq] at hk
        intro w hw
        obtain rfl : w = _ := by simpa using hw
        exact putW_ok h hm (putV_dep h hm hk.1.1).2.1
      · intro w hw; simp at hw
  · intro w hw; simp at hw
theorem getW_ok {s : Server} {m : Word} (h : SrvGood s) (hm : wordOk m = true) {o : Option Ver} (ho : ∀ v, o = some v → verOk v = true) : wordOk (getW s m o) = true := by
  have p := wordOk_parts hm
  exact wordOk_intro ⟨by simp [getW], by simp [getW]⟩ (site_address h.site) p.2.1 p.2.2.2.1 p.2.2.2.2.1 p.2.2.2.2.2.1 ⟨by simp [getW, word0], by simp [getW, word0]⟩ deps0 ⟨by simp [getW, word0], by simp [getW, word0]⟩ ⟨by simp [getW, word0], by simp [getW, word0]⟩ (chain_opt ho) chain_nil debts_nil
theorem atV_mem {l : List Ver} {d : Dep} {v : Ver} (h : atV l d = some v) : v ∈ l ∧ v.dep = d := by
  unfold atV at h
  split at h
  · rename_i hp
    obtain ⟨h1, h2⟩ := place_hit hp
    cases h
    exact ⟨elt_mem h1, h2⟩
  · cases h
theorem hearGet_words {s : Server} {m : Word} (h : SrvGood s) (hm : wordOk m = true) : ∀ w ∈ hearGet s m, wordOk w = true := by
  unfold hearGet
  split
  · split
    · intro w hw
      obtain rfl : w = _ := by simpa using hw
      exact getW_ok h hm fun v hv => chain_all h.vers v (topV_mem hv).1
    · split
      · rename_i v hv
        intro w hw
        obtain rfl : w = _ := by simpa using hw
        exact getW_ok h hm fun u hu => by cases hu; exact chain_all h.vers v (atV_mem hv).1
      · intro w hw; simp at hw
  · intro w hw; simp at hw
theorem repW_ok {s : Server} {m : Word} (h : SrvGood s) (hm : wordOk m = true) {v : Ver} (hv : verOk v = true) : wordOk (repW s m v) = true := by
  have p := wordOk_parts hm
  have q := verOk_parts hv
  exact wordOk_intro ⟨by simp [repW], by simp [repW]⟩ (site_address h.site) p.2.1 ⟨by simp [repW, word0], by simp [repW, word0]⟩ q.1 (stamp_fits q.2.1) ⟨by simp [repW, word0], by simp [repW, word0]⟩ deps0 ⟨by simp [repW, word0], by simp [repW, word0]⟩ ⟨by simp [repW, word0], by simp [repW, word0]⟩ chain_nil chain_nil debts_nil
theorem hearRep_words {s : Server} {m : Word} (h : SrvGood s) (hm : wordOk m = true) : ∀ w ∈ (hearRep s m).2, wordOk w = true := by
  unfold hearRep
  split
  · rename_i hr
    have hv : verOk (elt m.vers 0) = true := chain_all (wordOk_lists hm).1 _ (elt_mem (by rw [(repOk_parts hr).2.2.1]; omega))
    dsimp only
    split
    · split
      · intro w hw
        obtain rfl : w = _ := by simpa using hw
        exact repW_ok h hm hv
      · intro w hw; simp at hw
    · intro w hw
      obtain rfl : w = _ := by simpa using hw
      exact repW_ok h hm hv
  · intro w hw; simp at hw
theorem hearCheck_words {s : Server} {m : Word} (h : SrvGood s) (hm : wordOk m = true) : ∀ w ∈ hearCheck s m, wordOk w = true := by
  have p := wordOk_parts hm
  unfold hearCheck
  split
  · intro w hw
    obtain rfl : w = _ := by simpa using hw
    exact wordOk_intro ⟨by simp [haveW], by simp [haveW]⟩ (site_address h.site) p.2.1 ⟨by simp [haveW, word0], by simp [haveW, word0]⟩ p.2.2.2.2.1 p.2.2.2.2.2.1 ⟨by simp [haveW, word0], by simp [haveW, word0]⟩ deps0 ⟨by simp [haveW, word0], by simp [haveW, word0]⟩ ⟨by simp [haveW, word0], by simp [haveW, word0]⟩ chain_nil chain_nil debts_nil
  · intro w hw; simp at hw
theorem bulkOkW_ok {s : Server} {m : Word} (h : SrvGood s) (hm : wordOk m = true) : wordOk (bulkOkW s m) = true := by
  have p := wordOk_parts hm
  exact wordOk_intro ⟨by simp [bulkOkW], by simp [bulkOkW]⟩ (site_address h.site) p.2.1 ⟨by simp [bulkOkW, word0], by simp [bulkOkW, word0]⟩ key0 fits0 ⟨by simp [bulkOkW, word0], by simp [bulkOkW, word0]⟩ deps0 p.2.2.2.2.2.2.2.2.1 p.2.2.2.2.2.2.2.2.2.1 chain_nil chain_nil debts_nil
theorem hearBulk_words {s : Server} {m : Word} (h : SrvGood s) (hm : wordOk m = true) : ∀ w ∈ (hearBulk s m).2, wordOk w = true := by
  unfold hearBulk
  split
  · split
    · intro w hw
      obtain rfl : w = _ := by simpa using hw
      exact bulkOkW_ok h hm
    · split
      · intro w hw
        obtain rfl : w = _ := by simpa using hw
        exact bulkOkW_ok h hm
      · intro w hw; simp at hw
  · intro w hw; simp at hw
theorem hearS_words {s : Server} {m : Word} (h : SrvGood s) (hm : wordOk m = true) : ∀ w ∈ (hearS s m).2, wordOk w = true := by
  unfold hearS
  repeat' split
  · exact hearPut_words h hm
  · exact hearGet_words h hm
  · exact hearRep_words h hm
  · intro w hw; simp at hw
  · exact hearCheck_words h hm
  · intro w hw; simp at hw
  · exact hearBulk_words h hm
  · intro w hw; simp at hw
  · intro w hw; simp at hw
theorem serverHear_words {s : Server} {m : Word} (h : SrvGood s) : ∀ w ∈ (serverHear s m).2, wordOk w = true := by
  unfold serverHear
  split
  · rename_i hc
    simp only [Bool.and_eq_true] at hc
    exact hearS_words h hc.1.2
  · intro w hw; simp at hw
theorem slot_range {s : Server} (h : SrvGood s) {i : Nat} (hi : i < 3) : 0 ≤ (elt s.slots i).epoch ∧ (elt s.slots i).epoch ≤ 9999 := by
  have := slotGood_iff.1 (slotGood_elt h hi); exact ⟨this.1, this.2.1⟩
theorem bulkW_ok {s : Server} (h : SrvGood s) {slot : Int} (h0 : 0 ≤ slot) (h2 : slot ≤ 2) : wordOk (bulkW s slot) = true := by
  have hr := slot_range h (i := slot.toNat) (by omega)
  exact wordOk_intro ⟨by simp [bulkW], by simp [bulkW]⟩ (site_address h.site) (site_address (twin_site h.site)) ⟨by simp [bulkW, word0], by simp [bulkW, word0]⟩ key0 fits0 ⟨by simp [bulkW, word0], by simp [bulkW, word0]⟩ deps0 ⟨h0, h2⟩ hr (chain_sub h.vers List.filter_sublist) (chain_sub h.waits List.filter_sublist) (debts_sub h.owes List.filter_sublist)
theorem siteSide_range {n : Int} (h : siteB n = true) : siteSide n = n / 2 ∧ 0 ≤ siteSide n ∧ siteSide n ≤ 1 := by
  have h1 := siteB_iff.1 h
  unfold siteSide
  rw [h, if_pos rfl]
  omega
theorem repWs_words {s : Server} (h : SrvGood s) {d : Dep} : ∀ w ∈ repWs s d, wordOk w = true := by
  have hs := siteSide_range h.site
  have key : ∀ k : Int, 0 ≤ k → k ≤ 1 → wordOk { word0 with kind := 5, frm := s.site, to := 2 - 2 * siteSide s.site + k, vers := (atV s.vers d).toList } = true := fun k h1 h2 =>
    wordOk_intro ⟨by simp, by simp⟩ (site_address h.site) (site_address (siteB_iff.2 ⟨by simp; omega, by simp; omega⟩)) ⟨by simp [word0], by simp [word0]⟩ key0 fits0 ⟨by simp [word0], by simp [word0]⟩ deps0 ⟨by simp [word0], by simp [word0]⟩ ⟨by simp [word0], by simp [word0]⟩ (chain_opt fun v hv => chain_all h.vers v (atV_mem hv).1) chain_nil debts_nil
  unfold repWs
  split
  · intro w hw
    rcases List.mem_cons.1 hw with rfl | hw
    · have := key 0 (by omega) (by omega); rwa [Int.add_zero] at this
    · obtain rfl : w = _ := by simpa using hw
      exact key 1 (by omega) (by omega)
  · intro w hw; simp at hw
theorem askW_ok {s : Server} (h : SrvGood s) {d : Dep} (hd : debtOk d = true) : wordOk (askW s d) = true := by
  simp only [debtOk, Bool.and_eq_true] at hd
  exact wordOk_intro ⟨by simp [askW], by simp [askW]⟩ (site_address h.site) (site_address (twin_site h.site)) ⟨by simp [askW, word0], by simp [askW, word0]⟩ hd.1 (stamp_fits hd.2) ⟨by simp [askW, word0], by simp [askW, word0]⟩ deps0 ⟨by simp [askW, word0], by simp [askW, word0]⟩ ⟨by simp [askW, word0], by simp [askW, word0]⟩ chain_nil chain_nil debts_nil
theorem askD_mem {s : Server} {asked : List Dep} {d x : Dep} (h : x ∈ askD s asked d) : x ∈ asked ∨ x = d := by
  unfold askD at h
  split at h
  · exact .inl h
  · rcases List.mem_append.1 h with h | h
    · exact .inl h
    · exact .inr (by simpa using h)
theorem asked_mem {s : Server} : ∀ {l asked : List Dep} {x : Dep}, x ∈ l.foldl (askD s) asked → x ∈ asked ∨ x ∈ l
  | [], _, _, h => .inl h
  | d :: r, asked, x, h => by
    rcases asked_mem (l := r) h with h | h
    · rcases askD_mem h with h | h
      · exact .inl h
      · exact .inr (by simp [h])
    · exact .inr (by simp [h])
theorem asked_ok {s : Server} (h : SrvGood s) : ∀ d ∈ askedS s, debtOk d = true := by
  intro d hd
  rcases asked_mem hd with hd | hd
  · simp at hd
  · obtain ⟨ds, h1, h2⟩ := List.mem_flatten.1 hd
    obtain ⟨v, hv, rfl⟩ := List.mem_map.1 h1
    exact depsOk_debt (verOk_parts (chain_all h.waits v hv)).2.2 d h2
theorem leaving_lt {s : Server} (h : SrvGood s) {i : Nat} (hi : i ∈ leaving s) : i < 3 := by
  have := List.mem_range.1 (memF hi)
  rw [h.slots] at this; exact this
theorem tendS_words {s : Server} (h : SrvGood s) : ∀ w ∈ tendS s, wordOk w = true := by
  unfold tendS
  split
  · intro w hw
    rcases List.mem_append.1 hw with hw | hw
    · rcases List.mem_append.1 hw with hw | hw
      · obtain ⟨i, hi, rfl⟩ := List.mem_map.1 hw
        have := leaving_lt h hi
        exact bulkW_ok h (by omega) (by omega)
      · obtain ⟨ws, h1, h2⟩ := List.mem_flatten.1 hw
        obtain ⟨d, _, rfl⟩ := List.mem_map.1 h1
        exact repWs_words h w h2
    · obtain ⟨d, hd, rfl⟩ := List.mem_map.1 hw
      exact askW_ok h (asked_ok h d hd)
  · intro w hw; simp at hw
theorem small_ok {m : Word} (h : wordOk m = true) : smallW m := by
  have p := wordOk_parts h
  refine ⟨by have := depsOk_len6 p.2.2.2.2.2.2.2.1; omega, chain_small p.2.2.2.2.2.2.2.2.2.2.1, chain_small p.2.2.2.2.2.2.2.2.2.2.2.1, by have := debts_len p.2.2.2.2.2.2.2.2.2.2.2.2; omega⟩
theorem SrvGood.small {s : Server} (h : SrvGood s) : smallS s := h.ok.small (by have := debts_len h.owes; omega)
theorem wordOk_frm {m : Word} (h : wordOk m = true) : 0 ≤ m.frm ∧ m.frm ≤ 11 ∧ 0 ≤ m.to ∧ m.to ≤ 11 := by
  have p := wordOk_parts h
  have h1 := p.2.1
  have h2 := p.2.2.1
  simp only [addressB, siteB, inB, Bool.or_eq_true, Bool.and_eq_true, decide_eq_true_eq] at h1 h2
  omega
def needGood (c : Call) (d : Dep) : Bool := decide (0 ≤ gotI c d.key) && older (elt c.got (gotI c d.key).toNat) d.stamp
structure CallGood (q : Call) (t : Int) : Prop where
  client : clientB q.client = true
  num : 1 ≤ q.num ∧ q.num ≤ 99
  keys : keysOk q = true
  val : 0 ≤ q.val ∧ q.val ≤ 9999
  ctx : depsOk q.ctx = true
  needs : depsOk q.needs = true
  begin_ : 1 ≤ q.begin_ ∧ q.begin_ ≤ t
  fits : stampFits q.stamp = true
  has : ∀ a ∈ q.got, hasKey q.keys a.key = true
  sorted : q.got.Pairwise fun a b => ansLess a b = true
  good : ∀ a ∈ q.got, ansGood a = true
  need : ∀ d ∈ q.needs, needGood q d = true
  full : q.needs = [] ∨ q.got.length = q.keys.length
  put : q.kind = 1 → q.got = [] ∧ q.needs = []
  read : q.kind ≠ 1 → q.val = 0 ∧ stampNone q.stamp = true
  open_ : q.end_ = 0 → stampNone q.stamp = true
  ended : q.end_ ≠ 0 → q.over = false ∧ (q.begin_ + 1 ≤ q.end_ ∧ q.end_ ≤ t) ∧ q.needs = [] ∧ (q.kind = 1 → stampNone q.stamp = false) ∧ (q.kind ≠ 1 → q.got.length = q.keys.length)
theorem ansLess_trans {a b d : Answer} (h : ansLess a b = true) (h' : ansLess b d = true) : ansLess a d = true := by
  unfold ansLess at *; rw [decide_eq_true_eq] at *; omega
theorem gotsOk_iff {q : Call} : gotsOk q = true ↔ (∀ a ∈ q.got, hasKey q.keys a.key = true) ∧ (q.got.Pairwise fun a b => ansLess a b = true) ∧ ∀ a ∈ q.got, ansGood a = true := by
  unfold gotsOk
  rw [allN_iff]
  have h1 := linked_iff (good := fun a : Answer => hasKey q.keys a.key) (less := ansLess) (fun h1 h2 => ansLess_trans h1 h2) (l := q.got)
  rw [allN_iff] at h1
  unfold ansAt
  constructor
  · intro h
    have h2 := h1.1 fun i hi => (Bool.and_eq_true _ _ ▸ h i hi : _ ∧ _).1
    refine ⟨h2.1, h2.2, fun a ha => ?_⟩
    obtain ⟨k, hk, rfl⟩ := mem_elt ha
    exact (Bool.and_eq_true _ _ ▸ h k hk : _ ∧ _).2
  · rintro ⟨a1, a2, a3⟩ i hi
    rw [Bool.and_eq_true]
    exact ⟨h1.2 ⟨a1, a2⟩ i hi, a3 _ (elt_mem hi)⟩
theorem callOk_iff {q : Call} {t : Int} : callOk q t = true ↔ CallGood q t := by
  have e1 : (allN q.needs.length (needAt q)) = true ↔ ∀ d ∈ q.needs, needGood q d = true := by
    have e : needAt q = fun i => needGood q (elt q.needs i) := by funext i; rfl
    rw [e]; exact allN_mem
  have e2 : (((q.needs.length : Int) == 0) || answered q) = true ↔ q.needs = [] ∨ q.got.length = q.keys.length := by
    unfold answered
    rw [Bool.or_eq_true, beq_iff_eq, beq_iff_eq]
    constructor
    · rintro (h | h)
      · exact .inl (List.length_eq_zero_iff.1 (by omega))
      · exact .inr (by omega)
    · rintro (h | h)
      · exact .inl (by rw [h]; rfl)
      · exact .inr (by omega)
  have e3 : callMid q = true ↔ (q.kind = 1 → q.got = [] ∧ q.needs = []) ∧ (q.kind ≠ 1 → q.val = 0 ∧ stampNone q.stamp = true) := by
    unfold callMid
    rw [len_add]
    by_cases hk : q.kind = 1
    · simp [hk]
    · simp [hk]
  have e4 : callEnd q t = true ↔ (q.end_ = 0 → stampNone q.stamp = true) ∧ (q.end_ ≠ 0 → q.over = false ∧ (q.begin_ + 1 ≤ q.end_ ∧ q.end_ ≤ t) ∧ q.needs = [] ∧ (q.kind = 1 → stampNone q.stamp = false) ∧ (q.kind ≠ 1 → q.got.length = q.keys.length)) := by
    unfold callEnd
    by_cases he : q.end_ = 0
    · simp [he]
    · rw [if_neg he, len_pos]
      unfold answered inB
      by_cases hk : q.kind = 1
      · simp [hk, he, and_assoc]
      · simp [hk, he, and_assoc]; omega
  unfold callOk callHead gotOk
  simp only [Bool.and_eq_true]
  rw [gotsOk_iff, e1, e2, e3, e4]
  constructor
  · rintro ⟨⟨⟨⟨⟨⟨⟨⟨⟨⟨a1, a2⟩, a3⟩, a4⟩, a5⟩, a6⟩, a7⟩, a8⟩, ⟨⟨a9, a10, a11⟩, a12⟩, a13⟩, a14, a15⟩, a16, a17⟩
    simp only [inB, Bool.and_eq_true, decide_eq_true_eq] at a2 a4 a7
    exact ⟨a1, a2, a3, a4, a5, a6, a7, a8, a9, a10, a11, a12, a13, a14, a15, a16, a17⟩
  · intro h
    simp only [inB, Bool.and_eq_true, decide_eq_true_eq]
    exact ⟨⟨⟨⟨⟨⟨⟨⟨⟨⟨h.client, h.num⟩, h.keys⟩, h.val⟩, h.ctx⟩, h.needs⟩, h.begin_⟩, h.fits⟩, ⟨⟨h.has, h.sorted, h.good⟩, h.need⟩, h.full⟩, h.put, h.read⟩, h.open_, h.ended⟩
theorem gotI_iff {q : Call} {key : Int} : 0 ≤ gotI q key ↔ ∃ a ∈ q.got, a.key = key := by
  have := hasB_iff (p := ansIs key) (l := q.got)
  unfold hasB at this
  rw [decide_eq_true_eq] at this
  unfold gotI
  rw [this]
  simp [ansIs]
theorem gotI_elt {q : Call} {key : Int} (h : 0 ≤ gotI q key) : (gotI q key).toNat < q.got.length ∧ (elt q.got (gotI q key).toNat).key = key := by
  refine ⟨gotI_lt h, ?_⟩
  unfold gotI idxI at *
  split at h
  · rename_i k hk
    obtain ⟨h1, h2, _⟩ := List.findIdx?_eq_some_iff_getElem.1 hk
    simpa [elt, h1, ansIs] using h2
  · omega
theorem ans_one {l : List Answer} (h : l.Pairwise fun a b => ansLess a b = true) {i j : Nat} (hi : i < l.length) (hj : j < l.length) (he : (elt l i).key = (elt l j).key) : i = j := by
  rcases Nat.lt_trichotomy i j with hlt | h' | hlt
  · have := pairwise_elt h hlt hj
    unfold ansLess at this; rw [decide_eq_true_eq] at this; omega
  · exact h'
  · have := pairwise_elt h hlt hi
    unfold ansLess at this; rw [decide_eq_true_eq] at this; omega
theorem gotI_at {q : Call} (h : q.got.Pairwise fun a b => ansLess a b = true) {i : Nat} (hi : i < q.got.length) : gotI q (elt q.got i).key = i := by
  have h0 : 0 ≤ gotI q (elt q.got i).key := gotI_iff.2 ⟨_, elt_mem hi, rfl⟩
  obtain ⟨h1, h2⟩ := gotI_elt h0
  have := ans_one h h1 hi h2
  omega
theorem needGood_iff {q : Call} (h : q.got.Pairwise fun a b => ansLess a b = true) {d : Dep} : needGood q d = true ↔ ∃ a ∈ q.got, a.key = d.key ∧ older a d.stamp = true := by
  unfold needGood
  rw [Bool.and_eq_true, decide_eq_true_eq]
  constructor
  · rintro ⟨h1, h2⟩
    exact ⟨_, elt_mem (gotI_elt h1).1, (gotI_elt h1).2, h2⟩
  · rintro ⟨a, ha, hk, ho⟩
    obtain ⟨i, hi, rfl⟩ := mem_elt ha
    have e := gotI_at h hi
    rw [hk] at e
    rw [e]
    exact ⟨by omega, ho⟩
theorem insA_mem : ∀ {l : List Answer} {a x : Answer}, x ∈ insA l a ↔ x = a ∨ x ∈ l
  | [], a, x => by simp [insA]
  | e :: r, a, x => by
    unfold insA
    split
    · simp
    · rw [List.mem_cons, insA_mem, List.mem_cons]
      constructor
      · rintro (h | h | h) <;> simp [h]
      · rintro (h | h | h) <;> simp [h]
theorem insA_len : ∀ (l : List Answer) (a : Answer), (insA l a).length = l.length + 1
  | [], a => rfl
  | e :: r, a => by unfold insA; split <;> simp [insA_len r a]
theorem insA_sorted : ∀ {l : List Answer} {a : Answer}, (l.Pairwise fun a b => ansLess a b = true) → (∀ x ∈ l, x.key ≠ a.key) → (insA l a).Pairwise fun a b => ansLess a b = true
  | [], a, _, _ => by simp [insA]
  | e :: r, a, h, hn => by
    unfold insA
    rw [List.pairwise_cons] at h
    have he := hn e (by simp)
    split
    · rename_i hl
      rw [List.pairwise_cons]
      refine ⟨fun x hx => ?_, List.pairwise_cons.2 h⟩
      rcases List.mem_cons.1 hx with rfl | hx
      · unfold ansLess; rw [decide_eq_true_eq]; exact hl
      · have := h.1 x hx; unfold ansLess at *; rw [decide_eq_true_eq] at *; omega
    · rename_i hl
      rw [List.pairwise_cons]
      refine ⟨fun x hx => ?_, insA_sorted h.2 fun x hx => hn x (by simp [hx])⟩
      rcases insA_mem.1 hx with rfl | hx
      · unfold ansLess; rw [decide_eq_true_eq]; omega
      · exact h.1 x hx
theorem waitsC_parts {q : Call} (h : waitsC q = true) : q.end_ = 0 ∧ q.over = false := by
  unfold waitsC at h; simpa using h
theorem CallGood.later {q : Call} {t t' : Int} (h : CallGood q t) (ht : t ≤ t') : CallGood q t' := callOk_iff.1 (callOk_later (callOk_iff.2 h) ht)
theorem asks_ok {q : Call} {t : Int} (h : CallGood q t) : ∀ m ∈ asks q, (m.kind = 1 ∨ m.kind = 3) ∧ keyB m.key = true ∧ stampFits m.stamp = true ∧ (0 ≤ m.val ∧ m.val ≤ 9999) ∧ depsOk m.deps = true ∧ m.slot = 0 ∧ m.epoch = 0 ∧ m.vers = [] ∧ m.waits = [] ∧ m.owes = [] := by
  have hk : keysUp q.keys = true := by have := h.keys; simp only [keysOk, Bool.and_eq_true] at this; exact this.1
  unfold asks
  split
  · intro m hm
    obtain rfl : m = _ := by simpa using hm
    have h1 : q.keys.length = 1 := by
      have := h.keys; rename_i e; simp [keysOk, e] at this; omega
    exact ⟨.inl rfl, keysUp_key hk (elt_mem (by omega)), fits0, h.val, h.ctx, rfl, rfl, rfl, rfl, rfl⟩
  · intro m hm
    rcases List.mem_append.1 hm with hm | hm
    · obtain ⟨k, hkm, rfl⟩ := List.mem_map.1 hm
      exact ⟨.inr rfl, keysUp_key hk (memF hkm), fits0, ⟨by simp [word0], by simp [word0]⟩, deps0, rfl, rfl, rfl, rfl, rfl⟩
    · obtain ⟨d, hd, rfl⟩ := List.mem_map.1 hm
      have := depsOk_all h.needs hd
      simp only [depOk, Bool.and_eq_true] at this
      exact ⟨.inr rfl, this.1, stamp_fits this.2, ⟨by simp [word0], by simp [word0]⟩, deps0, rfl, rfl, rfl, rfl, rfl⟩
theorem clientB_iff {n : Int} : clientB n = true ↔ 0 ≤ n ∧ n ≤ 1 := by simp [clientB, inB]
theorem address_client {n : Int} (h : clientB n = true) : addressB (10 + n) = true := by
  rw [clientB_iff] at h
  unfold addressB inB
  simp; right; omega
theorem callWords_ok {q : Call} {t : Int} (h : CallGood q t) : ∀ m ∈ callWords q, wordOk m = true := by
  unfold callWords
  split
  · intro m hm
    obtain ⟨ws, h1, h2⟩ := List.mem_flatten.1 hm
    obtain ⟨x, hx, rfl⟩ := List.mem_map.1 h1
    obtain ⟨a1, a2, a3, a4, a5, a6, a7, a8, a9, a10⟩ := asks_ok h x hx
    have hc := clientB_iff.1 h.client
    have key : ∀ n : Int, siteB n = true → wordOk { x with frm := 10 + q.client, to := n, call := q.num } = true := fun n hn =>
      wordOk_intro (by show 1 ≤ x.kind ∧ x.kind ≤ 10; omega) (address_client h.client) (site_address hn) ⟨by have := h.num; show 0 ≤ q.num; omega, h.num.2⟩ a2 a3 a4 a5 (by show 0 ≤ x.slot ∧ x.slot ≤ 2; omega) (by show 0 ≤ x.epoch ∧ x.epoch ≤ 9999; omega)
        (by show chainOk x.vers = true; rw [a8]; rfl) (by show chainOk x.waits = true; rw [a9]; rfl) (by show debtsOk x.owes = true; rw [a10]; rfl)
    unfold toBoth at h2
    rcases List.mem_cons.1 h2 with rfl | h2
    · exact key _ (siteB_iff.2 (by omega))
    · obtain rfl : m = _ := by simpa using h2
      exact key _ (siteB_iff.2 (by omega))
  · intro m hm; simp at hm
theorem ans_not_zero {a : Answer} (h : ansGood a = true) : stampLess a.ver.stamp zst = false := by
  cases hy : a.yes
  · rw [ansGood_no h hy]; rfl
  · exact zst_not (stampOk_time (verOk_parts (ansGood_yes h hy).1).2.1)
theorem depsFrom_needs (came : List Dep) (hs : ∀ key, SOk (atD came key)) : ∀ {l : List Answer} {last : Int}, (l.Pairwise fun a b => ansLess a b = true) → (∀ a ∈ l, last < a.key ∧ a.key ≤ 5) → (∀ a ∈ l, ansGood a = true) → depsFrom last (l.map (needD came)).flatten = true
  | [], _, _, _, _ => rfl
  | a :: r, last, hp, hk, hg => by
    rw [List.pairwise_cons] at hp
    rw [List.map_cons, List.flatten_cons]
    have ha := hk a (by simp)
    have hgr : ∀ x ∈ r, ansGood x = true := fun x hx => hg x (by simp [hx])
    unfold needD
    split
    · rename_i hl
      have hso : stampOk (atD came a.key) = true := by
        rcases hs a.key with e | e
        · rw [e, ans_not_zero (hg a (by simp))] at hl; cases hl
        · exact e
      show (inB a.key (last + 1) 5 && stampOk (atD came a.key) && depsFrom a.key _) = true
      rw [hso, show inB a.key (last + 1) 5 = true by simp [inB]; omega, Bool.true_and, Bool.true_and]
      exact depsFrom_needs came hs hp.2 (fun x hx => ⟨by have := hp.1 x hx; unfold ansLess at this; rwa [decide_eq_true_eq] at this, (hk x (by simp [hx])).2⟩) hgr
    · rw [List.nil_append]
      exact depsFrom_needs came hs hp.2 (fun x hx => hk x (by simp [hx])) hgr
theorem needsD_mem {q : Call} {d : Dep} (h : d ∈ needsD q) : ∃ a ∈ q.got, d = ⟨a.key, atD (cameD q) a.key⟩ ∧ stampLess a.ver.stamp d.stamp = true := by
  unfold needsD at h
  obtain ⟨ds, h1, h2⟩ := List.mem_flatten.1 h
  obtain ⟨a, ha, rfl⟩ := List.mem_map.1 h1
  unfold needD at h2
  split at h2
  · rename_i hl
    obtain rfl : d = _ := by simpa using h2
    exact ⟨a, ha, rfl, hl⟩
  · simp at h2
theorem key_range {q : Call} {t : Int} (h : CallGood q t) {key : Int} (hk : hasKey q.keys key = true) : 0 ≤ key ∧ key ≤ 5 := by
  have hu : keysUp q.keys = true := by have := h.keys; simp only [keysOk, Bool.and_eq_true] at this; exact this.1
  exact keyB_iff.1 (keysUp_key hu (hasKey_iff.1 hk))
theorem needs_empty {q : Call} {t : Int} (h : CallGood q t) {key : Int} (hk : hasKey q.keys key = true) (hn : gotI q key < 0) : q.needs = [] ∧ q.got.length < q.keys.length := by
  have hu : keysUp q.keys = true := by have := h.keys; simp only [keysOk, Bool.and_eq_true] at this; exact this.1
  have hlt : q.got.length < q.keys.length := by
    apply Nat.lt_of_not_le
    intro hle
    have hne : ∀ a ∈ q.got, a.key ≠ key := fun a ha e => by
      have := gotI_iff (q := q) (key := key).2 ⟨a, ha, e⟩; omega
    have hs : ((insA q.got { (default : Answer) with key := key }).map Answer.key).Pairwise (· < ·) := by
      rw [List.pairwise_map]
      refine (insA_sorted h.sorted fun x hx => hne x hx).imp fun hl => ?_
      unfold ansLess at hl; rwa [decide_eq_true_eq] at hl
    have := rise_le (keys_rise hu) hs fun a ha => by
      rcases insA_mem.1 ha with rfl | ha
      · exact hasKey_iff.1 hk
      · exact hasKey_iff.1 (h.has a ha)
    rw [insA_len] at this
    omega
  exact ⟨h.full.resolve_right (by omega), hlt⟩
theorem CallGood.firstC {q : Call} {t : Int} (h : CallGood q t) (hw : waitsC q = true) (hb : q.begin_ < t) (hk : q.kind ≠ 1) {a : Answer} (ha : ansGood a = true) (hkey : hasKey q.keys a.key = true) (hn : gotI q a.key < 0) : CallGood (firstC q a t) t := by
  obtain ⟨he, ho⟩ := waitsC_parts hw
  obtain ⟨hns, hlt⟩ := needs_empty h hkey hn
  have hne : ∀ x ∈ q.got, x.key ≠ a.key := fun x hx e => by
    have := gotI_iff (q := q) (key := a.key).2 ⟨x, hx, e⟩; omega
  have hst : stampNone q.stamp = true := h.open_ he
  have hgood : ∀ x ∈ insA q.got a, ansGood x = true := fun x hx => by
    rcases insA_mem.1 hx with rfl | hx
    · exact ha
    · exact h.good x hx
  have hhas : ∀ x ∈ insA q.got a, hasKey q.keys x.key = true := fun x hx => by
    rcases insA_mem.1 hx with rfl | hx
    · exact hkey
    · exact h.has x hx
  have hsort := insA_sorted h.sorted hne
  have h1 : CallGood { q with got := insA q.got a } t :=
    ⟨h.client, h.num, h.keys, h.val, h.ctx, h.needs, h.begin_, h.fits, hhas, hsort, hgood, fun d hd => by have : d ∈ q.needs := hd; rw [hns] at this; simp at this, .inl hns, fun e => absurd e hk, h.read, h.open_, fun e => absurd he e⟩
  unfold Go.Proofs.YtkoebplikhlapaaGreatDoor.firstC
  dsimp only
  split
  · exact h1
  · rename_i hlen
    have hl : (insA q.got a).length = q.keys.length := by rw [insA_len]; have : ¬ (insA q.got a).length < q.keys.length := hlen; rw [insA_len] at this; omega
    have hcame : ∀ key, SOk (atD (cameD { q with got := insA q.got a }) key) := fun key => by
      have := (join_fold (l := insA q.got a) (acc := []) rfl hgood)
      exact atD_ok this.1 key
    have hnd : depsOk (needsD { q with got := insA q.got a }) = true := depsFrom_needs _ hcame hsort (fun x hx => by have := key_range h (hhas x hx); omega) hgood
    have hneed : ∀ d ∈ needsD { q with got := insA q.got a }, needGood { q with got := insA q.got a } d = true := fun d hd => by
      obtain ⟨x, hx, e, hls⟩ := needsD_mem hd
      refine (needGood_iff hsort).2 ⟨x, hx, by rw [e], ?_⟩
      unfold older; rw [hls]; simp
    unfold endC
    split
    · rename_i h0
      have h0 : q.needs ++ needsD { q with got := insA q.got a } = [] := h0
      exact ⟨h.client, h.num, h.keys, h.val, h.ctx, by show depsOk (q.needs ++ _) = true; rw [h0]; rfl, h.begin_, h.fits, hhas, hsort, hgood, fun d hd => by have : d ∈ q.needs ++ _ := hd; rw [h0] at this; simp at this, .inl h0, fun e => absurd e hk, h.read, fun _ => hst,
        fun _ => ⟨ho, ⟨by show q.begin_ + 1 ≤ t; omega, Int.le_refl _⟩, h0, fun e => absurd e hk, fun _ => hl⟩⟩
    · exact ⟨h.client, h.num, h.keys, h.val, h.ctx, by show depsOk (q.needs ++ _) = true; rw [hns]; exact hnd, h.begin_, h.fits, hhas, hsort, hgood, fun d hd => hneed d (by have : d ∈ q.needs ++ _ := hd; rwa [hns] at this), .inr hl, fun e => absurd e hk, h.read, h.open_, fun e => absurd he e⟩
theorem set_mem {α : Type} [Inhabited α] {l : List α} {i : Nat} {a x : α} (h : x ∈ l.set i a) : x = a ∨ ∃ k, k < l.length ∧ k ≠ i ∧ x = elt l k := by
  obtain ⟨k, hk, rfl⟩ := List.getElem_of_mem h
  rw [List.length_set] at hk
  by_cases e : i = k
  · subst e; left; simp
  · right; refine ⟨k, hk, fun e' => e e'.symm, ?_⟩
    rw [List.getElem_set_ne e]; simp [elt, hk]
theorem mem_set_ne {α : Type} [Inhabited α] {l : List α} {i k : Nat} {a : α} (h : k < l.length) (hne : k ≠ i) : elt l k ∈ l.set i a := by
  rw [List.mem_iff_getElem]; refine ⟨k, by simpa using h, ?_⟩
  rw [List.getElem_set_ne (fun e => hne e.symm)]; simp [elt, h]
theorem deps_one {l : List Dep} (h : depsOk l = true) {a b : Dep} (ha : a ∈ l) (hb : b ∈ l) (he : a.key = b.key) : a = b := by
  obtain ⟨i, hi, rfl⟩ := mem_elt ha
  obtain ⟨j, hj, rfl⟩ := mem_elt hb
  rcases Nat.lt_trichotomy i j with hlt | rfl | hlt
  · have := depsOk_fit h hlt hj; omega
  · rfl
  · have := depsOk_fit h hlt hi; omega
theorem depsFrom_filter (p : Dep → Bool) : ∀ {l : List Dep} {last : Int}, depsFrom last l = true → depsFrom last (l.filter p) = true
  | [], _, _ => rfl
  | d :: r, last, h => by
    simp only [depsFrom, Bool.and_eq_true] at h
    have ih := depsFrom_filter p h.2
    have hd := h.1.1
    simp only [inB, Bool.and_eq_true, decide_eq_true_eq] at hd
    by_cases hp : p d = true
    · rw [List.filter_cons_of_pos hp]
      simp only [depsFrom, Bool.and_eq_true]
      exact ⟨h.1, ih⟩
    · rw [List.filter_cons_of_neg hp]
      cases hr : r.filter p with
      | nil => rfl
      | cons e r' =>
        rw [hr] at ih
        simp only [depsFrom, Bool.and_eq_true, inB, decide_eq_true_eq] at ih ⊢
        exact ⟨⟨⟨by omega, ih.1.1.2⟩, ih.1.2⟩, ih.2⟩
theorem CallGood.secondC {q : Call} {t : Int} (h : CallGood q t) (hw : waitsC q = true) (hb : q.begin_ < t) (hk : q.kind ≠ 1) {a : Answer} (ha : ansGood a = true) (hy : a.yes = true) : CallGood (secondC q a t) t := by
  obtain ⟨he, ho⟩ := waitsC_parts hw
  have hst : stampNone q.stamp = true := h.open_ he
  unfold Go.Proofs.YtkoebplikhlapaaGreatDoor.secondC
  split
  · rename_i hm
    have hdep := (ansGood_dep ha hy).2
    have hng := h.need _ hm
    have h0 : 0 ≤ gotI q a.key := by
      unfold needGood at hng; rw [Bool.and_eq_true, decide_eq_true_eq, hdep] at hng; exact hng.1
    obtain ⟨h1, h2⟩ := gotI_elt h0
    have hlen : (q.got.set (gotI q a.key).toNat a).length = q.got.length := List.length_set ..
    have hfull : q.got.length = q.keys.length := h.full.resolve_left fun e => by rw [e] at hm; simp at hm
    have hgood : ∀ x ∈ q.got.set (gotI q a.key).toNat a, ansGood x = true := fun x hx => by
      rcases set_mem hx with rfl | ⟨k, hk', _, rfl⟩
      · exact ha
      · exact h.good _ (elt_mem hk')
    have hhas : ∀ x ∈ q.got.set (gotI q a.key).toNat a, hasKey q.keys x.key = true := fun x hx => by
      rcases set_mem hx with rfl | ⟨k, hk', _, rfl⟩
      · have := h.has _ (elt_mem h1); rwa [h2] at this
      · exact h.has _ (elt_mem hk')
    have hkeys : (q.got.set (gotI q a.key).toNat a).map Answer.key = q.got.map Answer.key := by
      rw [List.map_set]
      apply List.ext_getElem
      · simp
      · intro n hn1 hn2
        by_cases e : (gotI q a.key).toNat = n
        · subst e; rw [List.getElem_set_self, List.getElem_map]; exact h2.symm.trans (by simp [elt, h1])
        · rw [List.getElem_set_ne e]
    have hsort : (q.got.set (gotI q a.key).toNat a).Pairwise fun a b => ansLess a b = true := by
      have e : ∀ l : List Answer, (l.Pairwise fun a b => ansLess a b = true) ↔ (l.map Answer.key).Pairwise (· < ·) := fun l => by
        rw [List.pairwise_map]
        constructor <;> intro hh <;> refine hh.imp fun hl => ?_
        · unfold ansLess at hl; rwa [decide_eq_true_eq] at hl
        · unfold ansLess; rwa [decide_eq_true_eq]
      rw [e, hkeys, ← e]; exact h.sorted
    have hneed : ∀ d ∈ q.needs.filter (fun d => decide (d ≠ a.ver.dep)), needGood { q with got := q.got.set (gotI q a.key).toNat a, needs := q.needs.filter fun d => decide (d ≠ a.ver.dep) } d = true := fun d hd => by
      obtain ⟨hd1, hd2⟩ := List.mem_filter.1 hd
      rw [decide_eq_true_eq] at hd2
      have hkd : d.key ≠ a.key := fun e => hd2 (deps_one h.needs hd1 hm (by rw [e, hdep]))
      obtain ⟨x, hx, hxk, hxo⟩ := (needGood_iff h.sorted).1 (h.need d hd1)
      obtain ⟨k, hk', rfl⟩ := mem_elt hx
      refine (needGood_iff hsort).2 ⟨elt q.got k, mem_set_ne hk' fun e => ?_, hxk, hxo⟩
      subst e; rw [h2] at hxk; exact hkd hxk.symm
    have hnd : depsOk (q.needs.filter fun d => decide (d ≠ a.ver.dep)) = true := depsFrom_filter _ h.needs
    dsimp only
    split
    · rename_i hz
      exact ⟨h.client, h.num, h.keys, h.val, h.ctx, hnd, h.begin_, h.fits, hhas, hsort, hgood, hneed, .inl hz, fun e => absurd e hk, h.read, fun _ => hst,
        fun _ => ⟨ho, ⟨by show q.begin_ + 1 ≤ t; omega, Int.le_refl _⟩, hz, fun e => absurd e hk, fun _ => by show (q.got.set _ _).length = _; rw [hlen]; exact hfull⟩⟩
    · exact ⟨h.client, h.num, h.keys, h.val, h.ctx, hnd, h.begin_, h.fits, hhas, hsort, hgood, hneed, .inr (by show (q.got.set _ _).length = _; rw [hlen]; exact hfull), fun e => absurd e hk, h.read, h.open_, fun e => absurd he e⟩
  · exact h
theorem stamp_not_none {s : Stamp} (h : stampOk s = true) : stampNone s = false := by
  have := stampOk_time h
  unfold stampNone
  rw [Bool.and_eq_false_iff]; left; simp; omega
theorem ansOf_good {q : Call} {m : Word} (hm : wordOk m = true) (hv : m.yes = true → m.vers.length = 1 ∧ (elt m.vers 0).key = m.key) : ansGood (ansOf m) = true := by
  unfold ansGood ansOf
  dsimp only
  cases hy : m.yes
  · simp [verIs]
  · obtain ⟨h1, h2⟩ := hv hy
    have := chain_all (wordOk_lists hm).1 _ (elt_mem (l := m.vers) (k := 0) (by omega))
    simp [this, h2]
theorem callHear_good {q : Call} {m : Word} {t : Int} (h : CallGood q t) : CallGood (callHear q m t) t := by
  unfold callHear
  split
  · rename_i hc
    simp only [Bool.and_eq_true, decide_eq_true_eq] at hc
    obtain ⟨⟨⟨⟨⟨hm, _⟩, _⟩, hkey⟩, hw⟩, hb⟩ := hc
    obtain ⟨he, ho⟩ := waitsC_parts hw
    split
    · rename_i hk
      split
      · rename_i hs
        obtain ⟨hg, hns⟩ := h.put hk
        exact ⟨h.client, h.num, h.keys, h.val, h.ctx, h.needs, h.begin_, stamp_fits hs.2, h.has, h.sorted, h.good, h.need, h.full, h.put, fun e => absurd hk e, fun e => by have : t = 0 := e; have := h.begin_; omega,
          fun _ => ⟨ho, ⟨by show q.begin_ + 1 ≤ t; omega, Int.le_refl _⟩, hns, fun _ => stamp_not_none hs.2, fun e => absurd hk e⟩⟩
      · exact h
    · rename_i hk
      unfold readC
      split
      · rename_i hr
        have hg := ansOf_good (q := q) hm hr.2
        split
        · rename_i hn
          split
          · exact h.firstC hw hb hk hg hkey hn
          · exact h
        · split
          · rename_i hy
            exact h.secondC hw hb hk hg hy
          · exact h
      · exact h
  · exact h
theorem callHear_same (q : Call) (m : Word) (t : Int) : (callHear q m t).client = q.client ∧ (callHear q m t).num = q.num ∧ (callHear q m t).begin_ = q.begin_ ∧ (callHear q m t).over = q.over ∧ (callHear q m t).ctx = q.ctx ∧ (callHear q m t).keys = q.keys ∧ (callHear q m t).kind = q.kind := by
  have e : ∀ q' : Call, ∀ t, (endC q' t).client = q'.client ∧ (endC q' t).num = q'.num ∧ (endC q' t).begin_ = q'.begin_ ∧ (endC q' t).over = q'.over ∧ (endC q' t).ctx = q'.ctx ∧ (endC q' t).keys = q'.keys ∧ (endC q' t).kind = q'.kind := fun q' t => by
    unfold endC; split <;> exact ⟨rfl, rfl, rfl, rfl, rfl, rfl, rfl⟩
  unfold callHear readC firstC secondC
  dsimp only
  repeat' split
  all_goals first | exact ⟨rfl, rfl, rfl, rfl, rfl, rfl, rfl⟩ | exact e _ _
theorem sawD_ok {q : Call} {t : Int} (h : CallGood q t) : depsOk (sawD q) = true := by
  unfold sawD
  split
  · exact h.ctx
  · rename_i he
    split
    · rename_i hk
      refine depsOk_put h.ctx ?_
      have hs : stampOk q.stamp = true := by
        have h1 := (h.ended he).2.2.2.1 hk
        have h2 := h.fits
        unfold stampFits at h2; rw [h1, Bool.false_or] at h2; exact h2
      have hu : keysUp q.keys = true := by have := h.keys; simp only [keysOk, Bool.and_eq_true] at this; exact this.1
      have h1 : q.keys.length = 1 := by
        have := h.keys; simp [keysOk, hk] at this; omega
      unfold depOk
      rw [Bool.and_eq_true]
      exact ⟨keysUp_key hu (elt_mem (by omega)), hs⟩
    · exact (saw_fold h.ctx h.good).1
structure NeckGood (w : Neck) : Prop where
  time : 0 ≤ w.time
  servers : w.servers.length = 4
  site : ∀ i, i < 4 → (elt w.servers i).site = (i : Int) ∧ SrvGood (elt w.servers i)
  radio : w.radio.length ≤ 60
  words : ∀ m ∈ w.radio, wordOk m = true
  seen : w.seen.length = 2
  saw : ∀ l ∈ w.seen, depsOk l = true
  calls : callsOk w.calls w.time = true
theorem neckOk_iff {w : Neck} : neckOk w = true ↔ NeckGood w ∧ w.time ≤ 99999 := by
  unfold neckOk neckHead
  simp only [Bool.and_eq_true]
  rw [allN_iff]
  have e1 : (!hasB wordBad w.radio) = true ↔ ∀ m ∈ w.radio, wordOk m = true := by
    rw [Bool.not_eq_true', hasB_none]; unfold wordBad; simp
  have e2 : (!hasB depsBad w.seen) = true ↔ ∀ l ∈ w.seen, depsOk l = true := by
    rw [Bool.not_eq_true', hasB_none]; unfold depsBad; simp
  have e3 : (!(!inB w.time 0 99999 || ((w.servers.length : Int) != 4) || decide (60 < (w.radio.length : Int)) || ((w.seen.length : Int) != 2))) = true ↔ (0 ≤ w.time ∧ w.time ≤ 99999) ∧ w.servers.length = 4 ∧ w.radio.length ≤ 60 ∧ w.seen.length = 2 := by
    simp only [Bool.not_eq_true', Bool.or_eq_false_iff, Bool.not_eq_false', inB, Bool.and_eq_true, decide_eq_true_eq, decide_eq_false_iff_not, bne_eq_false_iff_eq]
    omega
  rw [e1, e2, e3]
  have e4 : ∀ i, siteAt w i = true ↔ (elt w.servers i).site = (i : Int) ∧ SrvGood (elt w.servers i) := fun i => by
    unfold siteAt; rw [Bool.and_eq_true, beq_iff_eq, serverOk_iff]
  constructor
  · rintro ⟨⟨⟨⟨⟨⟨a1, a2⟩, a3, a4, a5⟩, a6⟩, a7⟩, a8⟩, a9⟩
    exact ⟨⟨a1, a3, fun i hi => (e4 i).1 (a6 i (by omega)), a4, a7, a5, a8, a9⟩, a2⟩
  · rintro ⟨h, ht⟩
    exact ⟨⟨⟨⟨⟨⟨h.time, ht⟩, h.servers, h.radio, h.seen⟩, fun i hi => (e4 i).2 (h.site i (by rw [h.servers] at hi; exact hi))⟩, h.words⟩, h.saw⟩, h.calls⟩
theorem callsOk_iff {l : List Call} {t : Int} : callsOk l t = true ↔ l.length ≤ 20 ∧ ∀ i, i < l.length → CallGood (elt l i) t ∧ (i = 0 ∨ (elt l (i - 1)).begin_ < (elt l i).begin_) ∧ (elt l i).num = cntB l (i + 1) (elt l i).client ∧ ∀ j, j < i → clash (elt l j) (elt l i) = false := by
  unfold callsOk callAt callStep
  rw [Bool.and_eq_true, allN_iff, decide_eq_true_eq]
  constructor
  · rintro ⟨h, hl⟩
    refine ⟨hl, fun i hi => ?_⟩
    have := h i hi
    simp only [Bool.and_eq_true, Bool.or_eq_true, decide_eq_true_eq, beq_iff_eq, allN_iff] at this
    exact ⟨callOk_iff.1 this.1.1.1, this.1.1.2, this.1.2, fun j hj => by simpa using this.2 j hj⟩
  · rintro ⟨hl, h⟩
    refine ⟨fun i hi => ?_, hl⟩
    obtain ⟨a1, a2, a3, a4⟩ := h i hi
    simp only [Bool.and_eq_true, Bool.or_eq_true, decide_eq_true_eq, beq_iff_eq, allN_iff]
    exact ⟨⟨⟨callOk_iff.2 a1, a2⟩, a3⟩, fun j hj => by rw [a4 j hj]; rfl⟩
theorem callsOk_later {l : List Call} {t t' : Int} (h : callsOk l t = true) (ht : t ≤ t') : callsOk l t' = true := by
  obtain ⟨h1, h2⟩ := callsOk_iff.1 h
  exact callsOk_iff.2 ⟨h1, fun i hi => ⟨(h2 i hi).1.later ht, (h2 i hi).2⟩⟩
theorem elt_set {α : Type} [Inhabited α] {l : List α} {i j : Nat} {x : α} (h : i < l.length) : elt (l.set i x) j = if j = i then x else elt l j := by
  unfold elt
  simp only [List.getD_eq_getElem?_getD]
  rw [List.getElem?_set]
  by_cases e : i = j
  · subst e; simp [h]
  · rw [if_neg e, if_neg fun e' => e e'.symm]
theorem cntB_set {l : List Call} {i : Nat} {x : Call} (h : i < l.length) (hx : x.client = (elt l i).client) (k : Nat) (y : Int) : cntB (l.set i x) k y = cntB l k y := by
  have e : ((l.set i x).map Call.client) = l.map Call.client := by
    rw [List.map_set]
    apply List.ext_getElem
    · simp
    · intro n hn1 hn2
      by_cases e : i = n
      · subst e; rw [List.getElem_set_self, List.getElem_map, hx]; simp [elt, h]
      · rw [List.getElem_set_ne e]
  have e2 : ∀ l : List Call, cntB l k y = ((((l.map Call.client).take k).filter fun d => d == y).length : Nat) := fun l => by
    unfold cntB
    rw [← List.map_take, List.filter_map, List.length_map]; rfl
  rw [e2, e2, e]
theorem callsOk_set {l : List Call} {t : Int} (h : callsOk l t = true) {i : Nat} (hi : i < l.length) (hw : waitsC (elt l i) = true) {x : Call} (hx : CallGood x t) (h1 : x.client = (elt l i).client) (h2 : x.num = (elt l i).num) (h3 : x.begin_ = (elt l i).begin_) : callsOk (l.set i x) t = true := by
  obtain ⟨he, ho⟩ := waitsC_parts hw
  obtain ⟨a, b⟩ := callsOk_iff.1 h
  have hb : ∀ j, (elt (l.set i x) j).begin_ = (elt l j).begin_ := fun j => by rw [elt_set hi]; split; subst_vars; exact h3; rfl
  have hcl : ∀ j, (elt (l.set i x) j).client = (elt l j).client := fun j => by rw [elt_set hi]; split; subst_vars; exact h1; rfl
  have hnum : ∀ j, (elt (l.set i x) j).num = (elt l j).num := fun j => by rw [elt_set hi]; split; subst_vars; exact h2; rfl
  refine callsOk_iff.2 ⟨by rw [List.length_set]; exact a, fun j hj => ?_⟩
  rw [List.length_set] at hj
  obtain ⟨b1, b2, b3, b4⟩ := b j hj
  refine ⟨?_, by rw [hb, hb]; exact b2, by rw [hnum, hcl, cntB_set hi h1]; exact b3, fun k hk => ?_⟩
  · rw [elt_set hi]; split
    · exact hx
    · exact b1
  · have hc := b4 k hk
    unfold clash at hc ⊢
    rw [hcl, hcl, hb]
    by_cases e : k = i
    · subst e
      rw [he, ho] at hc
      have : ((elt l k).client == (elt l j).client) = false := by simpa using hc
      rw [this]; rfl
    · rw [elt_set hi, if_neg e]; exact hc
theorem nowI_hit {l : List Call} {client : Int} (h : 0 ≤ nowI l client) : (nowI l client).toNat < l.length ∧ (elt l (nowI l client).toNat).client = client ∧ waitsC (elt l (nowI l client).toNat) = true := by
  unfold nowI idxI at *
  split at h
  · rename_i k hk
    obtain ⟨h1, h2, _⟩ := List.findIdx?_eq_some_iff_getElem.1 hk
    have e : l[k] = elt l k := by simp [elt, h1]
    rw [e] at h2
    simp only [nowB, Bool.and_eq_true, beq_iff_eq] at h2
    refine ⟨by simpa using h1, by simpa using h2.1.1, ?_⟩
    unfold waitsC
    simp [h2.1.2, h2.2]
  · omega
theorem sendW_len {radio more : List Word} (h : radio.length ≤ 60) : (sendW radio more).length ≤ 60 := by
  unfold sendW; rw [List.length_append, List.length_take]; omega
theorem sendW_ok {radio more : List Word} (h : ∀ m ∈ radio, wordOk m = true) (h' : ∀ m ∈ more, wordOk m = true) : ∀ m ∈ sendW radio more, wordOk m = true := fun m hm => by
  unfold sendW at hm
  rcases List.mem_append.1 hm with hm | hm
  · exact h m hm
  · exact h' m (List.mem_of_mem_take hm)
theorem NeckGood.later {w : Neck} (h : NeckGood w) : NeckGood { w with time := w.time + 1 } :=
  ⟨by have := h.time; show 0 ≤ w.time + 1; omega, h.servers, h.site, h.radio, h.words, h.seen, h.saw, callsOk_later h.calls (by show w.time ≤ w.time + 1; omega)⟩
theorem NeckGood.send {w : Neck} (h : NeckGood w) {more : List Word} (hm : ∀ m ∈ more, wordOk m = true) : NeckGood { w with radio := sendW w.radio more } :=
  ⟨h.time, h.servers, h.site, sendW_len h.radio, sendW_ok h.words hm, h.seen, h.saw, h.calls⟩
theorem NeckGood.server {w : Neck} (h : NeckGood w) {i : Nat} (hi : i < 4) {s : Server} (hs : SrvGood s) (he : s.site = (elt w.servers i).site) : NeckGood { w with servers := w.servers.set i s } := by
  refine ⟨h.time, by show (w.servers.set _ _).length = 4; rw [List.length_set]; exact h.servers, fun j hj => ?_, h.radio, h.words, h.seen, h.saw, h.calls⟩
  show (elt (w.servers.set i s) j).site = j ∧ SrvGood (elt (w.servers.set i s) j)
  rw [elt_set (by rw [h.servers]; exact hi)]
  split
  · subst_vars; exact ⟨he.trans (h.site _ hi).1, hs⟩
  · exact h.site j hj
theorem NeckGood.calls_set {w : Neck} (h : NeckGood w) {i : Nat} (hi : i < w.calls.length) (hw : waitsC (elt w.calls i) = true) {x : Call} (hx : CallGood x w.time) (h1 : x.client = (elt w.calls i).client) (h2 : x.num = (elt w.calls i).num) (h3 : x.begin_ = (elt w.calls i).begin_) : NeckGood { w with calls := w.calls.set i x } :=
  ⟨h.time, h.servers, h.site, h.radio, h.words, h.seen, h.saw, callsOk_set h.calls hi hw hx h1 h2 h3⟩
theorem NeckGood.call {w : Neck} (h : NeckGood w) {i : Nat} (hi : i < w.calls.length) : CallGood (elt w.calls i) w.time := ((callsOk_iff.1 h.calls).2 i hi).1
theorem NeckGood.seen_set {w : Neck} (h : NeckGood w) (i : Nat) {l : List Dep} (hl : depsOk l = true) : NeckGood { w with seen := w.seen.set i l } :=
  ⟨h.time, h.servers, h.site, h.radio, h.words, by show (w.seen.set _ _).length = 2; rw [List.length_set]; exact h.seen, fun x hx => by
    rcases List.mem_or_eq_of_mem_set hx with hx | rfl
    · exact h.saw x hx
    · exact hl, h.calls⟩
theorem answerN_good {w : Neck} (h : NeckGood w) (m : Word) : NeckGood (answerN w m) := by
  unfold answerN
  dsimp only
  split
  · exact h
  · rename_i hn
    obtain ⟨h1, h2, h3⟩ := nowI_hit (l := w.calls) (client := m.to - 10) (by omega)
    obtain ⟨e1, e2, e3, _⟩ := callHear_same (elt w.calls (nowI w.calls (m.to - 10)).toNat) m w.time
    have hq := callHear_good (m := m) (h.call h1)
    have hg := h.calls_set h1 h3 hq e1 e2 e3
    split
    · exact hg.seen_set _ (sawD_ok hq)
    · exact hg
theorem settleS_site (s : Server) : (settleS s).site = s.site := (settleS_same s).1
theorem hearPut_site (s : Server) (m : Word) : (hearPut s m).1.site = s.site := by
  unfold hearPut
  split
  · split
    · rfl
    · split
      · exact settleS_site _
      · rfl
  · rfl
theorem hearRep_site (s : Server) (m : Word) : (hearRep s m).1.site = s.site := by
  unfold hearRep
  split
  · dsimp only
    split
    · split
      · exact settleS_site _
      · rfl
    · exact settleS_site _
  · rfl
theorem hearBulk_site (s : Server) (m : Word) : (hearBulk s m).1.site = s.site := by
  unfold hearBulk
  split
  · split
    · rfl
    · split
      · exact settleS_site _
      · rfl
  · rfl
theorem hearS_site (s : Server) (m : Word) : (hearS s m).1.site = s.site := by
  unfold hearS
  repeat' split
  · exact hearPut_site s m
  · rfl
  · exact hearRep_site s m
  · show (hearPaid s m).site = s.site
    unfold hearPaid; split <;> rfl
  · rfl
  · show (hearHave s m).site = s.site
    unfold hearHave; split
    · exact settleS_site _
    · rfl
  · exact hearBulk_site s m
  · show (hearGone s m).site = s.site
    unfold hearGone; split
    · exact settleS_site _
    · rfl
  · rfl
theorem serverHear_site (s : Server) (m : Word) : (serverHear s m).1.site = s.site := by
  unfold serverHear
  split
  · exact hearS_site s m
  · rfl
theorem radioN_good {w : Neck} (h : NeckGood w) (e : Ev) : NeckGood (radioN w e).1 := by
  unfold radioN
  split
  · rename_i hr
    simp only [inB, Bool.and_eq_true, decide_eq_true_eq] at hr
    have hm : wordOk (elt w.radio e.word.toNat) = true := h.words _ (elt_mem (by omega))
    have h1 : NeckGood (if e.kind = 5 ∨ e.keep = 0 then { w with radio := w.radio.take e.word.toNat ++ w.radio.drop (e.word.toNat + 1) } else w) := by
      split
      · have hs := without_sub w.radio e.word.toNat
        exact ⟨h.time, h.servers, h.site, Nat.le_trans hs.length_le h.radio, fun m hm => h.words m (hs.subset hm), h.seen, h.saw, h.calls⟩
      · exact h
    have hsv : (if e.kind = 5 ∨ e.keep = 0 then { w with radio := w.radio.take e.word.toNat ++ w.radio.drop (e.word.toNat + 1) } else w).servers = w.servers := by split <;> rfl
    dsimp only
    generalize (if e.kind = 5 ∨ e.keep = 0 then { w with radio := w.radio.take e.word.toNat ++ w.radio.drop (e.word.toNat + 1) } else w) = w1 at *
    split
    · exact h1
    · split
      · exact answerN_good h1 _
      · rename_i hcl
        have hto : 0 ≤ (elt w.radio e.word.toNat).to ∧ (elt w.radio e.word.toNat).to ≤ 3 := by
          have := (wordOk_parts hm).2.2.1
          simp only [addressB, siteB, inB, Bool.or_eq_true, Bool.and_eq_true, decide_eq_true_eq] at this hcl
          omega
        have hi : (elt w.radio e.word.toNat).to.toNat < 4 := by omega
        have hsg := (h.site _ hi).2
        have := (h1.server hi (s := (serverHear (elt w.servers (elt w.radio e.word.toNat).to.toNat) (elt w.radio e.word.toNat)).1) (serverHear_good hsg) (by rw [serverHear_site, hsv])).send (serverHear_words (m := elt w.radio e.word.toNat) hsg)
        rw [← hsv] at this ⊢
        exact this
  · exact h
theorem serverN_good {w : Neck} (h : NeckGood w) (e : Ev) (ha : siteB e.at_ = true) : NeckGood (serverN w e).1 := by
  rw [siteB_iff] at ha
  have hi : e.at_.toNat < 4 := by omega
  obtain ⟨_, hs⟩ := h.site _ hi
  unfold serverN
  dsimp only
  split
  · exact h.server hi (riseS_good hs) rfl
  · split
    · exact h.server hi (fallS_good hs) rfl
    · split
      · exact h.send (tendS_words hs)
      · split
        · rename_i hk
          have hp := moveOk_parts hk
          have hg := movedS_good hs hk
          exact (h.server hi hg rfl).send fun m hm => by
            obtain rfl : m = _ := by simpa using hm
            exact bulkW_ok hg hp.2.1 hp.2.2.1
        · exact h
theorem clientN_good {w : Neck} (h : NeckGood w) (e : Ev) (hok : (clientN w e).2 = true) : NeckGood (clientN w e).1 := by
  unfold clientN at *
  split at hok
  · rename_i hk
    rw [if_pos hk]
    unfold beginN at *
    split at hok
    · rename_i hc
      rw [if_pos hc]
      exact ⟨h.time, h.servers, h.site, h.radio, h.words, h.seen, h.saw, hok⟩
    · cases hok
  · rename_i hk
    rw [if_neg hk]
    dsimp only at hok ⊢
    split
    · exact h
    · rename_i hn
      obtain ⟨h1, h2, h3⟩ := nowI_hit (l := w.calls) (client := e.client) (by omega)
      have hq := h.call h1
      obtain ⟨he, _⟩ := waitsC_parts h3
      split
      · refine h.calls_set h1 h3 ⟨hq.client, hq.num, hq.keys, hq.val, hq.ctx, hq.needs, hq.begin_, hq.fits, hq.has, hq.sorted, hq.good, hq.need, hq.full, hq.put, hq.read, hq.open_, fun e => absurd he e⟩ rfl rfl rfl
      · exact h.send (callWords_ok hq)
theorem doN_good {w : Neck} (h : NeckGood w) (e : Ev) (hok : (doN w e).2 = true) : NeckGood (doN w e).1 := by
  have h1 := h.later
  unfold doN at *
  dsimp only at hok ⊢
  split
  · rename_i hk
    rw [if_pos hk] at hok
    exact clientN_good h1 e hok
  · split
    · exact radioN_good h1 e
    · split
      · rename_i hk
        rw [Bool.and_eq_true] at hk
        exact serverN_good h1 e hk.2
      · exact h1
theorem doN_time (w : Neck) (e : Ev) : (doN w e).1.time = w.time + 1 := by
  unfold doN clientN beginN radioN answerN serverN
  dsimp only
  repeat' split
  all_goals rfl
theorem startN_ok : neckOk startN = true := by decide
end Go.Proofs.YtkoebplikhlapaaGreatDoor
