/- Part 22: rules of the proofs, contracts of functions, plain facts. -/
import Derived.Test.YtkoebplikhlapaaGreatDoorP21
set_option linter.unusedVariables false
set_option linter.unusedSimpArgs false
set_option maxRecDepth 100000
namespace Go.Proofs.YtkoebplikhlapaaGreatDoor
open Go Go.RowKit
def maxT (l : List Stamp) : Int := l.foldl (fun t s => if t < s.time then s.time else t) 0
theorem maxT_take {l : List Stamp} {k : Nat} (h : k < l.length) : maxT (l.take (k + 1)) = if maxT (l.take k) < (elt l k).time then (elt l k).time else maxT (l.take k) := by
  unfold maxT; rw [take_elt h, List.foldl_append]; rfl
theorem maxT_range : ∀ {l : List Stamp} {t : Int}, 0 ≤ t → t ≤ 9999 → (∀ s ∈ l, stampOk s = true) → 0 ≤ l.foldl (fun t s => if t < s.time then s.time else t) t ∧ l.foldl (fun t s => if t < s.time then s.time else t) t ≤ 9999
  | [], t, h0, h1, _ => ⟨h0, h1⟩
  | s :: l, t, h0, h1, h => by
    have hs := h s (by simp)
    simp [stampOk, inB] at hs
    rw [List.foldl_cons]
    split
    · exact maxT_range (by omega) (by omega) fun x hx => h x (by simp [hx])
    · exact maxT_range h0 h1 fun x hx => h x (by simp [hx])
theorem maxT_le {l : List Stamp} (h : ∀ s ∈ l, stampOk s = true) (k : Nat) : 0 ≤ maxT (l.take k) ∧ maxT (l.take k) ≤ 9999 := maxT_range (by omega) (by omega) fun s hs => h s (List.mem_of_mem_take hs)
def nextOk (l : List Stamp) : Bool := decide (maxT l < 9999)
def nextS (site : Int) (l : List Stamp) : Stamp := if nextOk l then ⟨maxT l + 1, site⟩ else ⟨0, 0⟩
def keyIs (key : Int) (v : Ver) : Bool := v.key == key
def topV (l : List Ver) (key : Int) : Option Ver := l.reverse.find? (keyIs key)
theorem topV_hit {l : List Ver} {key : Int} {k : Nat} (hk : k < l.length) (h : ∀ i, k < i → i < l.length → keyIs key (elt l i) = false) (hp : keyIs key (elt l k) = true) : topV l key = some (elt l k) := by
  unfold topV
  rw [List.find?_eq_some_iff_getElem]
  refine ⟨hp, l.length - 1 - k, by simp; omega, ?_, fun j hj => ?_⟩
  · rw [List.getElem_reverse]; simp [elt]
    rw [List.getElem?_eq_getElem hk]; simp; congr 1; omega
  · rw [List.getElem_reverse]
    have := h (l.length - 1 - j) (by omega) (by omega)
    have e : l[l.length - 1 - j]'(by omega) = elt l (l.length - 1 - j) := by unfold elt; rw [List.getD_eq_getElem?_getD, List.getElem?_eq_getElem (by omega)]; rfl
    rw [e, this]; rfl
theorem topV_none {l : List Ver} {key : Int} (h : ∀ i, i < l.length → keyIs key (elt l i) = false) : topV l key = none := by
  unfold topV
  rw [List.find?_eq_none]
  intro x hx
  obtain ⟨k, hk, rfl⟩ := mem_elt (List.mem_reverse.1 hx)
  rw [h k hk]; simp
theorem topV_mem {l : List Ver} {key : Int} {v : Ver} (h : topV l key = some v) : v ∈ l ∧ v.key = key := by
  unfold topV at h
  have h1 := List.mem_of_find?_eq_some h
  have h2 := List.find?_some h
  exact ⟨List.mem_reverse.1 h1, by simpa [keyIs] using h2⟩
def canPut (l : List Ver) (v : Ver) : Bool := verOk v && decide (placeOf l v.dep < 0) && decide (l.length < 80)
def slotIs (slot : Int) (v : Ver) : Bool := verSlot v.key == slot
def depI (l : List Dep) (d : Dep) : Int := idxI (fun e => decide (e = d)) l
def insD : List Dep → Dep → List Dep
  | [], d => [d]
  | e :: r, d => if depLess d e then d :: e :: r else e :: insD r d
def addD (l : List Dep) (d : Dep) : List Dep := if 0 ≤ depI l d then l else insD l d
structure InsDAt (l : List Dep) (v : Dep) (k : Nat) (done : Bool) (out : List Dep) : Prop where
  hk : k ≤ l.length
  eq : insD l v = if done then out ++ l.drop k else out ++ insD (l.drop k) v
  len : out.length ≤ k + done.toNat
theorem InsDAt.zero (l : List Dep) (v : Dep) : InsDAt l v 0 false [] := ⟨Nat.zero_le _, by simp, by simp⟩
section
variable {l : List Dep} {v : Dep} {k : Nat} {out : List Dep} {done : Bool}
theorem InsDAt.before (hp : InsDAt l v k false out) (h : k < l.length) (he : depLess v (elt l k) = true) : InsDAt l v (k + 1) true ((out ++ [v]) ++ [elt l k]) := by
  refine ⟨h, ?_, by have := hp.len; simp at this ⊢; omega⟩
  have := hp.eq
  rw [drop_elt h] at this
  simp only [insD, if_pos he] at this
  rw [this]; simp
theorem InsDAt.step (hp : InsDAt l v k done out) (h : k < l.length) (he : done = true ∨ depLess v (elt l k) = false) : InsDAt l v (k + 1) done (out ++ [elt l k]) := by
  refine ⟨h, ?_, by have := hp.len; simp; omega⟩
  have := hp.eq
  cases done
  · rw [drop_elt h] at this
    have he : depLess v (elt l k) = false := he.resolve_left (by simp)
    simp only [insD, he] at this
    rw [this]; simp
  · simp only [if_true] at this ⊢
    rw [this, drop_elt h]; simp
theorem InsDAt.endT (hp : InsDAt l v k true out) (h : l.length ≤ k) : out = insD l v := by
  have := hp.eq
  rw [List.drop_eq_nil_of_le h] at this; simpa using this.symm
theorem InsDAt.endF (hp : InsDAt l v k false out) (h : l.length ≤ k) : out ++ [v] = insD l v := by
  have := hp.eq
  rw [List.drop_eq_nil_of_le h] at this; simpa [insD] using this.symm
end
theorem insD_len (l : List Dep) (v : Dep) : (insD l v).length = l.length + 1 := by
  induction l with
  | nil => rfl
  | cons x r ih => unfold insD; split <;> simp [ih]
theorem addD_len (l : List Dep) (v : Dep) : (addD l v).length ≤ l.length + 1 := by
  unfold addD; split
  · omega
  · rw [insD_len]; exact Nat.le_refl _
theorem depLess_test (e d : Dep) : (decide (d.key < e.key) || ((e.key == d.key) && stampLess d.stamp e.stamp)) = depLess d e := by
  unfold depLess
  by_cases h : e.key = d.key
  · simp [h]
  · have e1 : (e.key == d.key) = false := by simpa using h
    have e2 : (d.key == e.key) = false := by simpa using fun x => h x.symm
    rw [e1, e2]
def seenS (s : Server) (d : Dep) : Bool := decide (0 ≤ placeOf s.vers d) || decide (0 ≤ depI s.knows d)
def readyS (s : Server) (v : Ver) : Bool := allN v.deps.length fun i => seenS s (elt v.deps i)
def wantV (d : Dep) (v : Ver) : Bool := decide (0 ≤ depI v.deps d)
def wantedS (s : Server) (d : Dep) : Bool := !allN s.waits.length fun i => !wantV d (elt s.waits i)
def ownsS (s : Server) (key : Int) : Bool := keyB key && (standOf s key == 1)
def goesS (s : Server) (v : Ver) : Bool := (standOf s v.key == 1) && readyS s v
def pickS (s : Server) : Int := if s.vers.length < 80 then idxI (goesS s) s.waits else -1
def seeS (s : Server) (n : Nat) : Server := { s with vers := insV s.vers (elt s.waits n), waits := s.waits.take n ++ s.waits.drop (n + 1) }
def seesN : Nat → Server → Server
  | 0, s => s
  | n + 1, s => if pickS s < 0 then s else seesN n (seeS s (pickS s).toNat)
def seesS (s : Server) : Server := seesN s.waits.length s
def keepS (s : Server) : Server := { s with knows := s.knows.filter (wantedS s) }
def settleS (s : Server) : Server := keepS (seesS s)
theorem pickS_lt {s : Server} (h : 0 ≤ pickS s) : (pickS s).toNat < s.waits.length ∧ s.vers.length < 80 ∧ goesS s (elt s.waits (pickS s).toNat) = true := by
  unfold pickS at *
  split at h
  · rename_i hl
    rw [if_pos hl]
    unfold idxI at *
    split at h
    · rename_i k hk
      obtain ⟨h1, h2, _⟩ := List.findIdx?_eq_some_iff_getElem.1 hk
      exact ⟨by simpa using h1, hl, by simpa [elt, h1] using h2⟩
    · omega
  · omega
theorem seeS_len {s : Server} {n : Nat} (h : n < s.waits.length) : (seeS s n).waits.length = s.waits.length - 1 := by simp [seeS]; omega
theorem sees_go {s : Server} (h : 0 ≤ pickS s) : seesS s = seesS (seeS s (pickS s).toNat) := by
  have hl := (pickS_lt h).1
  unfold seesS
  rw [seeS_len hl]
  obtain ⟨n, hn⟩ : ∃ n, s.waits.length = n + 1 := ⟨s.waits.length - 1, by omega⟩
  rw [hn]
  show (if pickS s < 0 then s else _) = _
  rw [if_neg (by omega)]; rfl
theorem sees_stop {s : Server} (h : pickS s < 0) : seesS s = s := by
  unfold seesS
  cases s.waits.length with
  | zero => rfl
  | succ n => show (if pickS s < 0 then s else _) = _; rw [if_pos h]
structure SrvOk (s : Server) : Prop where
  slots : s.slots.length = 3
  vers : chainOk s.vers = true
  waits : chainOk s.waits = true
  apart : ∀ v ∈ s.waits, placeOf s.vers v.dep < 0
  knows : s.knows.length ≤ 80
def word0 : Word := ⟨0, 0, 0, 0, 0, ⟨0, 0⟩, 0, false, [], 0, 0, [], [], []⟩
def twinI (site : Int) : Int := if site % 2 = 0 then site + 1 else site - 1
def ofSlotD (slot : Int) (d : Dep) : Bool := verSlot d.key == slot
def bulkW (s : Server) (slot : Int) : Word :=
  { word0 with kind := 9, frm := s.site, to := twinI s.site, slot := slot, epoch := (elt s.slots slot.toNat).epoch, vers := s.vers.filter (slotIs slot), waits := s.waits.filter (slotIs slot), owes := s.owes.filter (ofSlotD slot) }
def dropS (s : Server) (slot : Int) : Server :=
  { s with vers := s.vers.filter fun v => !slotIs slot v, waits := s.waits.filter fun v => !slotIs slot v, owes := s.owes.filter fun d => !ofSlotD slot d }
def calledB (s : Server) (key client call : Int) (v : Ver) : Bool := (v.key == key) && (v.client == client) && (v.call == call) && (siteSide v.stamp.site == siteSide s.site)
def calledS (s : Server) (key client call : Int) : Option Ver := s.vers.find? (calledB s key client call)
def putW (s : Server) (m : Word) (st : Stamp) : Word := { word0 with kind := 2, frm := s.site, to := m.frm, call := m.call, key := m.key, stamp := st }
def putStamps (s : Server) (m : Word) : List Stamp := m.deps.map Dep.stamp ++ (match topV s.vers m.key with | some v => [v.stamp] | none => [])
def putV (s : Server) (m : Word) : Ver := ⟨m.key, nextS s.site (putStamps s m), m.val, m.frm - 10, m.call, m.deps⟩
def hearPut (s : Server) (m : Word) : Server × List Word :=
  if inB m.frm 10 11 && decide (1 ≤ m.call) && ownsS s m.key then
    match calledS s m.key (m.frm - 10) m.call with
    | some v => (s, [putW s m v.stamp])
    | none => if nextOk (putStamps s m) && canPut s.vers (putV s m) && decide (s.owes.length < 80) then
        (settleS { s with vers := insV s.vers (putV s m), owes := addD s.owes (putV s m).dep }, [putW s m (putV s m).stamp])
      else (s, [])
  else (s, [])
def getW (s : Server) (m : Word) (o : Option Ver) : Word := { word0 with kind := 4, frm := s.site, to := m.frm, call := m.call, key := m.key, stamp := m.stamp, yes := o.isSome, vers := o.toList }
def hearGet (s : Server) (m : Word) : List Word :=
  if inB m.frm 10 11 && decide (1 ≤ m.call) && ownsS s m.key then
    if stampNone m.stamp then [getW s m (topV s.vers m.key)]
    else match atV s.vers ⟨m.key, m.stamp⟩ with
      | some v => [getW s m (some v)]
      | none => []
  else []
def repOk (s : Server) (m : Word) : Bool := siteB m.frm && (siteSide m.frm != siteSide s.site) && decide (m.vers.length = 1) && ownsS s (elt m.vers 0).key && (siteSide (elt m.vers 0).stamp.site != siteSide s.site)
def repW (s : Server) (m : Word) (v : Ver) : Word := { word0 with kind := 6, frm := s.site, to := m.frm, key := v.key, stamp := v.stamp }
def hearRep (s : Server) (m : Word) : Server × List Word :=
  if repOk s m then
    let v := elt m.vers 0
    if placeOf s.vers v.dep < 0 ∧ placeOf s.waits v.dep < 0 then
      if canPut s.waits v then (settleS { s with waits := insV s.waits v }, [repW s m v]) else (s, [])
    else (settleS s, [repW s m v])
  else (s, [])
def hearPaid (s : Server) (m : Word) : Server :=
  if siteB m.frm && (siteSide m.frm != siteSide s.site) && decide (0 ≤ depI s.owes ⟨m.key, m.stamp⟩) && (standOf s m.key == 1) then
    { s with owes := s.owes.take (depI s.owes ⟨m.key, m.stamp⟩).toNat ++ s.owes.drop ((depI s.owes ⟨m.key, m.stamp⟩).toNat + 1) }
  else s
def haveW (s : Server) (m : Word) : Word := { word0 with kind := 8, frm := s.site, to := m.frm, key := m.key, stamp := m.stamp }
def hearCheck (s : Server) (m : Word) : List Word := if (atV s.vers ⟨m.key, m.stamp⟩).isSome && (m.frm == twinI s.site) then [haveW s m] else []
def hearHave (s : Server) (m : Word) : Server :=
  if (m.frm == twinI s.site) && wantedS s ⟨m.key, m.stamp⟩ && decide (s.knows.length < 80) then settleS { s with knows := addD s.knows ⟨m.key, m.stamp⟩ } else s
def bulkOkW (s : Server) (m : Word) : Word := { word0 with kind := 10, frm := s.site, to := m.frm, slot := m.slot, epoch := m.epoch }
def putAll (l : List Ver) (vs : List Ver) : List Ver := vs.foldl addV l
def takeS (s : Server) (m : Word) : Server :=
  let x := dropS s m.slot
  { x with slots := x.slots.set m.slot.toNat ⟨m.epoch, 1⟩, vers := putAll x.vers m.vers, waits := putAll x.waits m.waits, owes := m.owes.foldl addD x.owes }
def bulkFits (s : Server) (m : Word) : Bool :=
  let x := dropS s m.slot
  decide (x.vers.length + m.vers.length ≤ 80) && decide (x.waits.length + m.waits.length ≤ 80) && decide (x.owes.length + m.owes.length ≤ 80)
def hearBulk (s : Server) (m : Word) : Server × List Word :=
  if (m.frm == twinI s.site) && decide (1 ≤ m.epoch) then
    if m.epoch ≤ (elt s.slots m.slot.toNat).epoch then (s, [bulkOkW s m])
    else if bulkFits s m && serverOk (takeS s m) then (settleS (takeS s m), [bulkOkW s m]) else (s, [])
  else (s, [])
def goneS (s : Server) (m : Word) : Server := let x := dropS s m.slot; { x with slots := x.slots.set m.slot.toNat ⟨m.epoch, 0⟩ }
def hearGone (s : Server) (m : Word) : Server :=
  if (m.frm == twinI s.site) && ((elt s.slots m.slot.toNat).stand == 2) && ((elt s.slots m.slot.toNat).epoch == m.epoch) then settleS (goneS s m) else s
def hearS (s : Server) (m : Word) : Server × List Word :=
  if m.kind = 1 then hearPut s m else if m.kind = 3 then (s, hearGet s m) else if m.kind = 5 then hearRep s m else if m.kind = 6 then (hearPaid s m, []) else
  if m.kind = 7 then (s, hearCheck s m) else if m.kind = 8 then (hearHave s m, []) else if m.kind = 9 then hearBulk s m else if m.kind = 10 then (hearGone s m, []) else (s, [])
def serverHear (s : Server) (m : Word) : Server × List Word := if s.up && wordOk m && (m.to == s.site) then hearS s m else (s, [])
def leaving (s : Server) : List Nat := (List.range s.slots.length).filter fun i => (elt s.slots i).stand == 2
def repWs (s : Server) (d : Dep) : List Word :=
  if standOf s d.key == 1 then [{ word0 with kind := 5, frm := s.site, to := 2 - 2 * siteSide s.site, vers := (atV s.vers d).toList }, { word0 with kind := 5, frm := s.site, to := 2 - 2 * siteSide s.site + 1, vers := (atV s.vers d).toList }] else []
def askW (s : Server) (d : Dep) : Word := { word0 with kind := 7, frm := s.site, to := twinI s.site, key := d.key, stamp := d.stamp }
def askD (s : Server) (asked : List Dep) (d : Dep) : List Dep := if seenS s d || decide (0 ≤ depI asked d) then asked else asked ++ [d]
def askedS (s : Server) : List Dep := (s.waits.map Ver.deps).flatten.foldl (askD s) []
def tendS (s : Server) : List Word := if s.up then (leaving s).map (fun i : Nat => bulkW s (i : Int)) ++ (s.owes.map (repWs s)).flatten ++ (askedS s).map (askW s) else []
def moveOk (s : Server) (slot : Int) : Bool := s.up && inB slot 0 2 && ((elt s.slots slot.toNat).stand == 1) && decide ((elt s.slots slot.toNat).epoch < 9999)
def movedS (s : Server) (slot : Int) : Server := { s with slots := s.slots.set slot.toNat ⟨(elt s.slots slot.toNat).epoch + 1, 2⟩ }
def moveS (s : Server) (slot : Int) : Server × Word × Bool := if moveOk s slot then (movedS s slot, bulkW (movedS s slot) slot, true) else (s, word0, false)
def fallS (s : Server) : Server := { s with up := false, knows := [] }
def riseS (s : Server) : Server := { s with up := true }
def call0 : Call := ⟨0, 0, 0, [], 0, [], 0, 0, false, ⟨0, 0⟩, [], []⟩
def toBoth (q : Call) (m : Word) : List Word := [{ m with frm := 10 + q.client, to := 2 * q.client, call := q.num }, { m with frm := 10 + q.client, to := 2 * q.client + 1, call := q.num }]
def asks (q : Call) : List Word :=
  if q.kind = 1 then [{ word0 with kind := 1, key := elt q.keys 0, val := q.val, deps := q.ctx }]
  else (q.keys.filter fun k => decide (gotI q k < 0)).map (fun k => { word0 with kind := 3, key := k }) ++ q.needs.map fun d => { word0 with kind := 3, key := d.key, stamp := d.stamp }
def waitsC (q : Call) : Bool := (q.end_ == 0) && !q.over
def callWords (q : Call) : List Word := if waitsC q then ((asks q).map (toBoth q)).flatten else []
def needD (came : List Dep) (a : Answer) : List Dep := if stampLess a.ver.stamp (atD came a.key) then [⟨a.key, atD came a.key⟩] else []
def needsD (q : Call) : List Dep := (q.got.map (needD (cameD q))).flatten
def endC (q : Call) (time : Int) : Call := if q.needs = [] then { q with end_ := time } else q
def insA : List Answer → Answer → List Answer
  | [], a => [a]
  | e :: r, a => if a.key < e.key then a :: e :: r else e :: insA r a
def firstC (q : Call) (a : Answer) (time : Int) : Call :=
  let x := { q with got := insA q.got a }
  if x.got.length < x.keys.length then x else endC { x with needs := x.needs ++ needsD x } time
def secondC (q : Call) (a : Answer) (time : Int) : Call :=
  if a.ver.dep ∈ q.needs then
    let x := { q with got := q.got.set (gotI q a.key).toNat a, needs := q.needs.filter fun d => decide (d ≠ a.ver.dep) }
    if x.needs = [] then { x with end_ := time } else x
  else q
def ansOf (m : Word) : Answer := ⟨m.key, m.yes, if m.yes then elt m.vers 0 else ver0⟩
def readC (q : Call) (m : Word) (time : Int) : Call :=
  if m.kind = 4 ∧ (m.yes = true → m.vers.length = 1 ∧ (elt m.vers 0).key = m.key) then
    if gotI q m.key < 0 then (if stampNone m.stamp then firstC q (ansOf m) time else q)
    else if m.yes then secondC q (ansOf m) time else q
  else q
def callHear (q : Call) (m : Word) (time : Int) : Call :=
  if wordOk m && (m.to == 10 + q.client) && (m.call == q.num) && hasKey q.keys m.key && waitsC q && decide (q.begin_ < time) then
    if q.kind = 1 then (if m.kind = 2 ∧ stampOk m.stamp = true then { q with stamp := m.stamp, end_ := time } else q)
    else readC q m time
  else q
def sendW (radio more : List Word) : List Word := radio ++ more.take (60 - radio.length)
def nowB (client : Int) (q : Call) : Bool := (q.client == client) && (q.end_ == 0) && !q.over
def nowI (calls : List Call) (client : Int) : Int := idxI (nowB client) calls
def keysE (e : Ev) : List Int := e.a :: (if e.call = 2 ∧ e.a < e.b then e.b :: (if e.b < e.c then [e.c] else []) else [])
def lastNum (calls : List Call) (client : Int) : Int := calls.foldl (fun n q => if q.client = client then q.num else n) 0
def newC (w : Neck) (e : Ev) : Call := { call0 with client := e.client, num := lastNum w.calls e.client + 1, kind := e.call, keys := keysE e, val := if e.call = 1 then e.val else 0, ctx := elt w.seen e.client.toNat, begin_ := w.time }
def beginN (w : Neck) (e : Ev) : Neck × Bool :=
  if clientB e.client && decide (nowI w.calls e.client < 0) then ({ w with calls := w.calls ++ [newC w e] }, callsOk (w.calls ++ [newC w e]) w.time) else (w, false)
def answerN (w : Neck) (m : Word) : Neck :=
  let i := nowI w.calls (m.to - 10)
  if i < 0 then w else
    let q := callHear (elt w.calls i.toNat) m w.time
    let w1 := { w with calls := w.calls.set i.toNat q }
    if 0 < q.end_ then { w1 with seen := w.seen.set (m.to - 10).toNat (sawD q) } else w1
def radioN (w : Neck) (e : Ev) : Neck × Bool :=
  if inB e.word 0 ((w.radio.length : Int) - 1) then
    let m := elt w.radio e.word.toNat
    let w1 := if e.kind = 5 ∨ e.keep = 0 then { w with radio := w.radio.take e.word.toNat ++ w.radio.drop (e.word.toNat + 1) } else w
    if e.kind = 5 then (w1, true)
    else if inB m.to 10 11 then (answerN w1 m, true)
    else ({ w1 with servers := w.servers.set m.to.toNat (serverHear (elt w.servers m.to.toNat) m).1, radio := sendW w1.radio (serverHear (elt w.servers m.to.toNat) m).2 }, true)
  else (w, false)
def serverN (w : Neck) (e : Ev) : Neck × Bool :=
  let s := elt w.servers e.at_.toNat
  if e.kind = 7 then ({ w with servers := w.servers.set e.at_.toNat (riseS s) }, !s.up)
  else if e.kind = 6 then ({ w with servers := w.servers.set e.at_.toNat (fallS s) }, s.up)
  else if e.kind = 8 then ({ w with radio := sendW w.radio (tendS s) }, s.up)
  else if moveOk s e.slot then ({ w with servers := w.servers.set e.at_.toNat (movedS s e.slot), radio := sendW w.radio [bulkW (movedS s e.slot) e.slot] }, true) else (w, false)
def clientN (w : Neck) (e : Ev) : Neck × Bool :=
  if e.kind = 1 then beginN w e else
  let i := nowI w.calls e.client
  if i < 0 then (w, false)
  else if e.kind = 3 then ({ w with calls := w.calls.set i.toNat { elt w.calls i.toNat with over := true } }, true)
  else ({ w with radio := sendW w.radio (callWords (elt w.calls i.toNat)) }, true)
def doN (w0 : Neck) (e : Ev) : Neck × Bool :=
  let w := { w0 with time := w0.time + 1 }
  if e.kind = 1 ∨ e.kind = 2 ∨ e.kind = 3 then clientN w e
  else if e.kind = 4 ∨ e.kind = 5 then radioN w e
  else if inB e.kind 6 9 && siteB e.at_ then serverN w e
  else (w, false)
def startS (site : Nat) : Server := ⟨site, true, (List.range 3).map fun i => if i % 2 = site % 2 then ⟨1, 1⟩ else ⟨0, 0⟩, [], [], [], []⟩
def startN : Neck := ⟨0, (List.range 4).map startS, [], [], [[], []]⟩
theorem verOk_depsOk {v : Ver} (h : verOk v = true) : depsOk v.deps = true := by
  simp only [verOk, Bool.and_eq_true] at h; exact h.1.2
def smallVs (l : List Ver) : Prop := l.length ≤ 1048576 ∧ ∀ v ∈ l, v.deps.length ≤ 1048576
def smallW (m : Word) : Prop := m.deps.length ≤ 1048576 ∧ smallVs m.vers ∧ smallVs m.waits ∧ m.owes.length ≤ 1048576
def smallS (s : Server) : Prop := s.slots.length ≤ 1048576 ∧ smallVs s.vers ∧ smallVs s.waits ∧ s.owes.length ≤ 1048576 ∧ s.knows.length ≤ 1048576
def smallC (q : Call) : Prop := q.keys.length ≤ 1048576 ∧ q.ctx.length ≤ 1048576 ∧ q.got.length ≤ 1048576 ∧ (∀ y ∈ q.got, y.ver.deps.length ≤ 1048576) ∧ q.needs.length ≤ 1048576
theorem chain_small {l : List Ver} (h : chainOk l = true) : smallVs l := ⟨by have := chain_len h; omega, fun v hv => by have := depsOk_len6 (verOk_depsOk (chain_all h v hv)); omega⟩
theorem c_spec_l2Vers (l : List Ver) (h : l.length ≤ 1048576) (hd : ∀ y ∈ l, y.deps.length ≤ 1048576) :
    Fn Tryz.prog 154 [versAV l] (versAV l) := by
 refine Fn.intro 21 Tryz.func154 rfl Tryz.ntmps154 rfl (by kernel_rfl) (fun W I a hs => ?_)
 have hle := hs.lenleM (t := 0) rfl
 refine sr <| hs.sc fun hs => nn <| sr ?_
 refine hs.lit0 rfl un86 ty173 (by decide) fun b5 I a w hs => ?_
 refine hs.s fun hs => nn <| wp_seq <| sr <| hs.sc fun hs => nn <| wp_block ?_
 refine St.lo (σ := Nat × Value) (run 2 3 (run 14 6 [])) ⟨fun ⟨k, v⟩ => [(4, AV.int k), (3, AV.val v)], fun ⟨k, v⟩ => [Own.row v 173 7 ((l.take k).map Ver.cells)], fun ⟨k, v⟩ => k ≤ l.length⟩ (fun ⟨k, v⟩ => l.length - k) (0, .slice (some ⟨b5, 0, none⟩) 0 0) hs ?ok1 ?round1
 case ok1 => exact Nat.zero_le _
 case round1 =>
  rintro ⟨k, v⟩ I a w hok hs
  have hk : k ≤ l.length := hok
  change St _ _ [Own.row v 173 7 ((l.take k).map Ver.cells)] _ _ _ at hs
  refine wp_seq <| sr <| hs.m fun hs => hs.m fun hs => ?_
  refine hs.o .ln fun hs => ?_
  refine hs.o .lss fun hs => nn ?_
  refine hs.cd (fun hb1 => ?_) fun hb1 => ?_
  ·try simp only [B] at hb1
   refine wp_skip <| then_n <| wp_seq <| wp_block <| St.region <| hs.m fun hs => hs.m fun hs => hs.m fun hs => ?_
   refine hs.o .ix fun hs => ?_
   refine hs.o .la fun hs => ?_
   refine hs.o (.c1 (c_spec_l2Copy (elt l k) (hd _ (elt_mem hb1)))) fun hs => ?_
   refine hs.o (.li [(elt l k).cells] zo173 (.u .nil)) fun hs => ?_
   refine hs.append 0 rfl un86 ty173 rfl .tt .r rfl (by simp; omega) fun v19 a w hs => ?_
   rw [snocD, ← take_elt hb1] at hs
   refine hs.s fun hs => wpList_nil <| block_n <| then_n <| St.region <| hs.m fun hs => ?_
   refine hs.o .ad fun hs => ?_
   refine hs.s fun hs => nn ?_
   exact hs.ag (k + 1, v19) (hb1)
  ·try simp only [B] at hb1
   refine wp_exit <| then_x <| then_x <| block_hit <| then_n <| sr <| hs.m fun hs => hs.s fun hs => nn <| wp_ret ?_
   obtain ⟨I, hs, hf⟩ := hs.freezeRow 0 rfl
   have hs := hs.upd (t := 2) rfl hf; clear hf
   refine hs.rt ?_
   exact congrArg (AV.rows 7) (by rw [List.take_of_length_le (by omega)])
set_option maxHeartbeats 4000000 in
theorem c_spec_l11Copy (m : Word) (h : smallW m) :
    Fn Tryz.prog 143 [m.av] (m.av) := by
 refine Fn.intro 22 Tryz.func143 rfl Tryz.ntmps143 rfl (by kernel_rfl) (fun W I a hs => ?_)
 obtain ⟨h1, ⟨h2, h3⟩, ⟨h4, h5⟩, h6⟩ := h
 refine sr <| hs.box rfl .tt fun b1 I a w hs => hs.alloc rfl ty135 zc135 fun b2 I a w hs => nn <| sr ?_
 refine hs.lit0 rfl un87 ty165 (by decide) fun b3 I a w hs => ?_
 refine hs.o .fv fun hs => hs.o (.lb 0) fun hs => ?_
 refine hs.append 2 rfl un87 ty165 rfl .tt .r rfl (by simp; omega) fun v6 a w hs => ?_
 obtain ⟨I, hs, hf⟩ := hs.freezeRow 2 rfl
 have hs := hs.upd (t := 6) rfl hf; clear hf
 refine hs.o .fv fun hs => ?_
 refine hs.s1 0 fun hs => ?_
 refine nn <| sr <| hs.o .fv fun hs => hs.o (.lb 0) fun hs => ?_
 refine hs.o (.cl (c_spec_l2Vers m.vers h2 h3)) fun hs => ?_
 refine hs.o .fv fun hs => ?_
 refine hs.s1 0 fun hs => ?_
 refine nn <| sr <| hs.o .fv fun hs => hs.o (.lb 0) fun hs => ?_
 refine hs.o (.cl (c_spec_l2Vers m.waits h4 h5)) fun hs => ?_
 refine hs.o .fv fun hs => ?_
 refine hs.s1 0 fun hs => ?_
 refine nn <| sr ?_
 refine hs.lit0 rfl un87 ty165 (by decide) fun b16 I a w hs => ?_
 refine hs.o .fv fun hs => hs.o (.lb 0) fun hs => ?_
 refine hs.append 3 rfl un87 ty165 rfl .tt .r rfl (by simp; omega) fun v19 a w hs => ?_
 obtain ⟨I, hs, hf⟩ := hs.freezeRow 3 rfl
 have hs := hs.upd (t := 19) rfl hf; clear hf
 refine hs.o .fv fun hs => ?_
 refine hs.s1 0 fun hs => ?_
 refine nn <| sr <| hs.o (.ls 0) fun hs => ?_
 refine hs.sb 1 fun hs => ?_
 refine nn <| wp_ret ?_
 refine hs.ret rfl (.cons (.s 1 ty135 rfl rfl (by first | rfl | assumption)) ResL.nil) ?_
 rfl
theorem c_spec_l11Words (l : List Word) (h : l.length ≤ 1048576) (hd : ∀ y ∈ l, smallW y) :
    Fn Tryz.prog 128 [wordsAV l] (wordsAV l) := by
 refine Fn.intro 21 Tryz.func128 rfl Tryz.ntmps128 rfl (by kernel_rfl) (fun W I a hs => ?_)
 have hle := hs.lenleM (t := 0) rfl
 refine sr <| hs.sc fun hs => nn <| sr ?_
 refine hs.lit0 rfl un37 ty135 (by decide) fun b5 I a w hs => ?_
 refine hs.s fun hs => nn <| wp_seq <| sr <| hs.sc fun hs => nn <| wp_block ?_
 refine St.lo (σ := Nat × Value) (run 2 3 (run 14 6 [])) ⟨fun ⟨k, v⟩ => [(4, AV.int k), (3, AV.val v)], fun ⟨k, v⟩ => [Own.row v 135 15 ((l.take k).map Word.cells)], fun ⟨k, v⟩ => k ≤ l.length⟩ (fun ⟨k, v⟩ => l.length - k) (0, .slice (some ⟨b5, 0, none⟩) 0 0) hs ?ok1 ?round1
 case ok1 => exact Nat.zero_le _
 case round1 =>
  rintro ⟨k, v⟩ I a w hok hs
  have hk : k ≤ l.length := hok
  change St _ _ [Own.row v 135 15 ((l.take k).map Word.cells)] _ _ _ at hs
  refine wp_seq <| sr <| hs.m fun hs => hs.m fun hs => ?_
  refine hs.o .ln fun hs => ?_
  refine hs.o .lss fun hs => nn ?_
  refine hs.cd (fun hb1 => ?_) fun hb1 => ?_
  ·try simp only [B] at hb1
   refine wp_skip <| then_n <| wp_seq <| wp_block <| St.region <| hs.m fun hs => hs.m fun hs => hs.m fun hs => ?_
   refine hs.o .ix fun hs => ?_
   refine hs.o .la fun hs => ?_
   refine hs.o (.c1 (c_spec_l11Copy (elt l k) (hd _ (elt_mem hb1)))) fun hs => ?_
   refine hs.o (.li [(elt l k).cells] zo135 (.u .nil)) fun hs => ?_
   refine hs.append 0 rfl un37 ty135 rfl .tt .r rfl (by simp; omega) fun v19 a w hs => ?_
   rw [snocD, ← take_elt hb1] at hs
   refine hs.s fun hs => wpList_nil <| block_n <| then_n <| St.region <| hs.m fun hs => ?_
   refine hs.o .ad fun hs => ?_
   refine hs.s fun hs => nn ?_
   exact hs.ag (k + 1, v19) (hb1)
  ·try simp only [B] at hb1
   refine wp_exit <| then_x <| then_x <| block_hit <| then_n <| sr <| hs.m fun hs => hs.s fun hs => nn <| wp_ret ?_
   obtain ⟨I, hs, hf⟩ := hs.freezeRow 0 rfl
   have hs := hs.upd (t := 2) rfl hf; clear hf
   refine hs.rt ?_
   exact congrArg (AV.rows 15) (by rw [List.take_of_length_le (by omega)])
set_option maxHeartbeats 4000000 in
theorem c_spec_l21Copy (s : Server) (h : smallS s) :
    Fn Tryz.prog 117 [s.av] (s.av) := by
 refine Fn.intro 27 Tryz.func117 rfl Tryz.ntmps117 rfl (by kernel_rfl) (fun W I a hs => ?_)
 obtain ⟨h1, ⟨h2, h3⟩, ⟨h4, h5⟩, h6, h7⟩ := h
 refine sr <| hs.box rfl .tt fun b1 I a w hs => hs.alloc rfl ty89 zc89 fun b2 I a w hs => nn <| sr ?_
 refine hs.lit0 rfl un85 ty100 (by decide) fun b3 I a w hs => ?_
 refine hs.o .fv fun hs => hs.o (.lb 0) fun hs => ?_
 refine hs.append 2 rfl un85 ty100 rfl .tt .r rfl (by simp; omega) fun v6 a w hs => ?_
 obtain ⟨I, hs, hf⟩ := hs.freezeRow 2 rfl
 have hs := hs.upd (t := 6) rfl hf; clear hf
 refine hs.o .fv fun hs => ?_
 refine hs.s1 0 fun hs => ?_
 refine nn <| sr <| hs.o .fv fun hs => hs.o (.lb 0) fun hs => ?_
 refine hs.o (.cl (c_spec_l2Vers s.vers h2 h3)) fun hs => ?_
 refine hs.o .fv fun hs => ?_
 refine hs.s1 0 fun hs => ?_
 refine nn <| sr <| hs.o .fv fun hs => hs.o (.lb 0) fun hs => ?_
 refine hs.o (.cl (c_spec_l2Vers s.waits h4 h5)) fun hs => ?_
 refine hs.o .fv fun hs => ?_
 refine hs.s1 0 fun hs => ?_
 refine nn <| sr ?_
 refine hs.lit0 rfl un87 ty165 (by decide) fun b16 I a w hs => ?_
 refine hs.o .fv fun hs => hs.o (.lb 0) fun hs => ?_
 refine hs.append 3 rfl un87 ty165 rfl .tt .r rfl (by simp; omega) fun v19 a w hs => ?_
 obtain ⟨I, hs, hf⟩ := hs.freezeRow 3 rfl
 have hs := hs.upd (t := 19) rfl hf; clear hf
 refine hs.o .fv fun hs => ?_
 refine hs.s1 0 fun hs => ?_
 refine nn <| sr ?_
 refine hs.lit0 rfl un87 ty165 (by decide) fun b21 I a w hs => ?_
 refine hs.o .fv fun hs => hs.o (.lb 0) fun hs => ?_
 refine hs.append 4 rfl un87 ty165 rfl .tt .r rfl (by simp; omega) fun v24 a w hs => ?_
 obtain ⟨I, hs, hf⟩ := hs.freezeRow 4 rfl
 have hs := hs.upd (t := 24) rfl hf; clear hf
 refine hs.o .fv fun hs => ?_
 refine hs.s1 0 fun hs => ?_
 refine nn <| sr <| hs.o (.ls 0) fun hs => ?_
 refine hs.sb 1 fun hs => ?_
 refine nn <| wp_ret ?_
 refine hs.ret rfl (.cons (.s 1 ty89 rfl rfl (by first | rfl | assumption)) ResL.nil) ?_
 rfl
def Server.avO (s : Server) (v : Value) : AV := .agg [.int s.site, .bool s.up, .val v, versAV s.vers, versAV s.waits, depsAV s.owes, depsAV s.knows]
set_option maxHeartbeats 4000000 in
theorem c_spec_l21CopyO (s : Server) (h : smallS s) :
    FnE Tryz.prog 117 [s.av] [] (fun _ : Value => True) (fun v => [Own.row v 100 2 (s.slots.map Slot.cells)]) s.avO := by
 refine FnE.intro 27 Tryz.func117 rfl Tryz.ntmps117 rfl (by kernel_rfl) (fun W I a hs => ?_)
 obtain ⟨h1, ⟨h2, h3⟩, ⟨h4, h5⟩, h6, h7⟩ := h
 refine sr <| hs.box rfl .tt fun b1 I a w hs => hs.alloc rfl ty89 zc89 fun b2 I a w hs => nn <| sr ?_
 refine hs.lit0 rfl un85 ty100 (by decide) fun b3 I a w hs => ?_
 refine hs.o .fv fun hs => hs.o (.lb 0) fun hs => ?_
 refine hs.append 2 rfl un85 ty100 rfl .tt .r rfl (by simp; omega) fun v6 a w hs => ?_
 refine hs.o .fv fun hs => ?_
 try have ho6 := hs.oneRow 2 rfl
 refine hs.s1 0 fun hs => ?_
 refine nn <| sr <| hs.o .fv fun hs => hs.o (.lb 0) fun hs => ?_
 refine hs.o (.cl (c_spec_l2Vers s.vers h2 h3)) fun hs => ?_
 refine hs.o .fv fun hs => ?_
 refine hs.s1 0 fun hs => ?_
 refine nn <| sr <| hs.o .fv fun hs => hs.o (.lb 0) fun hs => ?_
 refine hs.o (.cl (c_spec_l2Vers s.waits h4 h5)) fun hs => ?_
 refine hs.o .fv fun hs => ?_
 refine hs.s1 0 fun hs => ?_
 refine nn <| sr ?_
 refine hs.lit0 rfl un87 ty165 (by decide) fun b16 I a w hs => ?_
 refine hs.o .fv fun hs => hs.o (.lb 0) fun hs => ?_
 refine hs.append 3 rfl un87 ty165 rfl .tt .r rfl (by simp; omega) fun v19 a w hs => ?_
 obtain ⟨I, hs, hf⟩ := hs.freezeRow 3 rfl
 have hs := hs.upd (t := 19) rfl hf; clear hf
 refine hs.o .fv fun hs => ?_
 try have ho19 := hs.oneRow 3 rfl
 refine hs.s1 0 fun hs => ?_
 refine nn <| sr ?_
 refine hs.lit0 rfl un87 ty165 (by decide) fun b21 I a w hs => ?_
 refine hs.o .fv fun hs => hs.o (.lb 0) fun hs => ?_
 refine hs.append 4 rfl un87 ty165 rfl .tt .r rfl (by simp; omega) fun v24 a w hs => ?_
 obtain ⟨I, hs, hf⟩ := hs.freezeRow 4 rfl
 have hs := hs.upd (t := 24) rfl hf; clear hf
 refine hs.o .fv fun hs => ?_
 try have ho24 := hs.oneRow 4 rfl
 refine hs.s1 0 fun hs => ?_
 refine nn <| sr <| hs.o (.ls 0) fun hs => ?_
 refine hs.sb 1 fun hs => ?_
 refine nn <| wp_ret ?_
 exact hs.retE v6 [2] rfl (.cons (.s 1 ty89 rfl rfl (by first | rfl | assumption)) .nil) trivial rfl rfl
end Go.Proofs.YtkoebplikhlapaaGreatDoor
