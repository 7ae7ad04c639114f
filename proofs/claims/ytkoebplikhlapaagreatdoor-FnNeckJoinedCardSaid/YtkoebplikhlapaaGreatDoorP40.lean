/- Part 40: rules of the proofs, contracts of functions, plain facts. -/
import Derived.Shelf.Strings.Builder1
import Derived.Shelf.Strconv.Itoa3
import Derived.Shelf.LaysM
import Derived.Test.YtkoebplikhlapaaGreatDoorP39
set_option linter.unusedVariables false
set_option linter.unusedSimpArgs false
set_option maxRecDepth 100000
namespace Go.Proofs.YtkoebplikhlapaaGreatDoor
open Go Go.RowKit
open Go.Shelf
def renB : Ren := ⟨fun | 166 => 25 | 240 => 40 | 276 => 60 | 169 => 26 | 170 => 24 | n => n, fun | 0 => 0 | 4 => 4 | 9 => 9 | 20 => 20 | 70 => 56 | 72 => 58 | 164 => 97 | 37 => 22 | 5 => 5 | 3 => 3 | 75 => 61 | 80 => 64 | 127 => 84 | n => n, fun n => n⟩
theorem layLen : Lays.n170 Tryz.prog renB := {
  mixed := by kernel_rfl
  f170 := Tryz.func24.trans (congrArg some (by kernel_rfl))
  t0 := Tryz.underlying0
  a0 := Tryz.isAgg0
  z0 := Tryz.sizeOf0
  v0 := Tryz.zeroValue0
  t3 := Tryz.underlying3
  a3 := Tryz.isAgg3
  z3 := Tryz.sizeOf3
  v3 := Tryz.zeroValue3
  t37 := Tryz.underlying22
  a37 := Tryz.isAgg22
  z37 := Tryz.sizeOf22
  v37 := Tryz.zeroValue22
  t70 := Tryz.underlying56
  a70 := Tryz.isAgg56
  z70 := Tryz.sizeOf56
  v70 := Tryz.zeroValue56
  t72 := Tryz.underlying58
  a72 := Tryz.isAgg58
  z72 := Tryz.sizeOf58
  v72 := Tryz.zeroValue58 }
theorem layWrite : Lays.n166 Tryz.prog renB := {
  mixed := by kernel_rfl
  f166 := Tryz.func25.trans (congrArg some (by kernel_rfl))
  f240 := Tryz.func40.trans (congrArg some (by kernel_rfl))
  f276 := Tryz.func60.trans (congrArg some (by kernel_rfl))
  t0 := Tryz.underlying0
  a0 := Tryz.isAgg0
  z0 := Tryz.sizeOf0
  v0 := Tryz.zeroValue0
  t3 := Tryz.underlying3
  a3 := Tryz.isAgg3
  z3 := Tryz.sizeOf3
  v3 := Tryz.zeroValue3
  t4 := Tryz.underlying4
  a4 := Tryz.isAgg4
  z4 := Tryz.sizeOf4
  v4 := Tryz.zeroValue4
  t9 := Tryz.underlying9
  a9 := Tryz.isAgg9
  z9 := Tryz.sizeOf9
  v9 := Tryz.zeroValue9
  t20 := Tryz.underlying20
  a20 := Tryz.isAgg20
  z20 := Tryz.sizeOf20
  v20 := Tryz.zeroValue20
  t37 := Tryz.underlying22
  a37 := Tryz.isAgg22
  z37 := Tryz.sizeOf22
  v37 := Tryz.zeroValue22
  t70 := Tryz.underlying56
  a70 := Tryz.isAgg56
  z70 := Tryz.sizeOf56
  v70 := Tryz.zeroValue56
  t72 := Tryz.underlying58
  a72 := Tryz.isAgg58
  z72 := Tryz.sizeOf58
  v72 := Tryz.zeroValue58
  t75 := Tryz.underlying61
  a75 := Tryz.isAgg61
  z75 := Tryz.sizeOf61
  v75 := Tryz.zeroValue61
  t164 := Tryz.underlying97
  a164 := Tryz.isAgg97
  z164 := Tryz.sizeOf97
  v164 := Tryz.zeroValue97 }
theorem layString : Lays.n169 Tryz.prog renB := {
  mixed := by kernel_rfl
  f169 := Tryz.func26.trans (congrArg some (by kernel_rfl))
  t0 := Tryz.underlying0
  a0 := Tryz.isAgg0
  z0 := Tryz.sizeOf0
  v0 := Tryz.zeroValue0
  t3 := Tryz.underlying3
  a3 := Tryz.isAgg3
  z3 := Tryz.sizeOf3
  v3 := Tryz.zeroValue3
  t9 := Tryz.underlying9
  a9 := Tryz.isAgg9
  z9 := Tryz.sizeOf9
  v9 := Tryz.zeroValue9
  t37 := Tryz.underlying22
  a37 := Tryz.isAgg22
  z37 := Tryz.sizeOf22
  v37 := Tryz.zeroValue22
  t70 := Tryz.underlying56
  a70 := Tryz.isAgg56
  z70 := Tryz.sizeOf56
  v70 := Tryz.zeroValue56
  t72 := Tryz.underlying58
  a72 := Tryz.isAgg58
  z72 := Tryz.sizeOf58
  v72 := Tryz.zeroValue58
  t127 := Tryz.underlying84
  a127 := Tryz.isAgg84
  z127 := Tryz.sizeOf84
  v127 := Tryz.zeroValue84 }
theorem extraB : Builder.Extra Tryz.prog renB := {
  sizeBuilder := by kernel_rfl
  liesBuilder := by kernel_rfl
  t5 := Tryz.underlying5
  a5 := Tryz.isAgg5
  z5 := Tryz.sizeOf5
  v5 := Tryz.zeroValue5
  infoByte := by kernel_rfl
  cellsByte := by kernel_rfl
  sizeByte := by kernel_rfl
  neB5 := by decide }
open Go.RowKit
theorem b_len (B b : Nat) (bs : List Value) (w : World) (h : Lib.IsBuilder 58 5 B b bs w) :
    Calls Tryz.prog 24 #[.pointer (some ⟨b, 0, none⟩)] w fun e w' => e = .returned (.int .i64 bs.length) ∧ w' = w := Any.Builder_Len layLen B b bs w h
theorem b_write (B b : Nat) (bs : List Value) (s : ByteArray) (w : World) (h : Lib.IsBuilder 58 5 B b bs w) (hlen : bs.length + s.size ≤ 140737488355328) (hBw : B ≤ w.heap.size) :
    Calls Tryz.prog 25 #[.pointer (some ⟨b, 0, none⟩), .string s] w fun e w' => e = .returned (.tuple #[.int .i64 s.size, .nilIface]) ∧ (Lib.BuilderAt 58 5 B b (.pointer (some ⟨b, 0, none⟩)) (bs ++ Lib.strCells s) w' ∧ Below B w w') :=
  Any.Builder_WriteString layWrite extraB B b bs s w h hlen hBw
theorem b_string (B b : Nat) (l : List UInt8) (w : World) (h : Lib.IsBuilder 58 5 B b (Lib.byteCells l) w) (hBw : B ≤ w.heap.size) :
    Calls Tryz.prog 26 #[.pointer (some ⟨b, 0, none⟩)] w fun e w' => e = .returned (.string ⟨l.toArray⟩) ∧ Below B w w' := Any.Builder_String_any layString extraB B b l w h hBw
def renI : Go.Shelf.Ren := ⟨fun | 171 => 37 | 243 => 59 | 246 => 73 | 283 => 86 | 284 => 87 | 285 => 88 | 286 => 89 | 129 => 105 | 317 => 104 | 318 => 106 | 319 => 107 | 320 => 108 | 337 => 134 | 338 => 135 | n => n, fun | 3 => 3 | 9 => 9 | 2 => 2 | 4 => 4 | 171 => 127 | 0 => 0 | 53 => 120 | 37 => 22 | 5 => 5 | 173 => 130 | 212 => 156 | 51 => 147 | 20 => 20 | 213 => 157 | 46 => 119 | 232 => 209 | 233 => 210 | n => n, fun | 17 => 5 | 18 => 6 | 19 => 7 | n => n⟩
theorem layItoa : LaysM.n171 Tryz.prog renI := {
  mixed := by kernel_rfl
  f129 := Tryz.func105.trans (congrArg some (by kernel_rfl))
  f171 := Tryz.func37.trans (congrArg some (by kernel_rfl))
  f243 := Tryz.func59.trans (congrArg some (by kernel_rfl))
  f246 := Tryz.func73.trans (congrArg some (by kernel_rfl))
  f283 := Tryz.func86.trans (congrArg some (by kernel_rfl))
  f284 := Tryz.func87.trans (congrArg some (by kernel_rfl))
  f285 := Tryz.func88.trans (congrArg some (by kernel_rfl))
  f286 := Tryz.func89.trans (congrArg some (by kernel_rfl))
  f317 := Tryz.func104.trans (congrArg some (by kernel_rfl))
  f318 := Tryz.func106.trans (congrArg some (by kernel_rfl))
  f319 := Tryz.func107.trans (congrArg some (by kernel_rfl))
  f320 := Tryz.func108.trans (congrArg some (by kernel_rfl))
  f337 := Tryz.func134.trans (congrArg some (by kernel_rfl))
  f338 := Tryz.func135.trans (congrArg some (by kernel_rfl))
  t0 := Tryz.underlying0
  a0 := Tryz.isAgg0
  z0 := Tryz.sizeOf0
  v0 := Tryz.zeroValue0
  t2 := Tryz.underlying2
  a2 := Tryz.isAgg2
  z2 := Tryz.sizeOf2
  v2 := Tryz.zeroValue2
  t3 := Tryz.underlying3
  a3 := Tryz.isAgg3
  z3 := Tryz.sizeOf3
  v3 := Tryz.zeroValue3
  t4 := Tryz.underlying4
  a4 := Tryz.isAgg4
  z4 := Tryz.sizeOf4
  v4 := Tryz.zeroValue4
  t5 := Tryz.underlying5
  a5 := Tryz.isAgg5
  z5 := Tryz.sizeOf5
  v5 := Tryz.zeroValue5
  t9 := Tryz.underlying9
  a9 := Tryz.isAgg9
  z9 := Tryz.sizeOf9
  v9 := Tryz.zeroValue9
  t20 := Tryz.underlying20
  a20 := Tryz.isAgg20
  z20 := Tryz.sizeOf20
  v20 := Tryz.zeroValue20
  t37 := Tryz.underlying22
  a37 := Tryz.isAgg22
  z37 := Tryz.sizeOf22
  v37 := Tryz.zeroValue22
  t46 := Tryz.underlying119
  a46 := Tryz.isAgg119
  z46 := Tryz.sizeOf119
  v46 := Tryz.zeroValue119
  t51 := Tryz.underlying147
  a51 := Tryz.isAgg147
  z51 := Tryz.sizeOf147
  v51 := Tryz.zeroValue147
  t53 := Tryz.underlying120
  a53 := Tryz.isAgg120
  z53 := Tryz.sizeOf120
  v53 := Tryz.zeroValue120
  t171 := Tryz.underlying127
  a171 := Tryz.isAgg127
  z171 := Tryz.sizeOf127
  v171 := Tryz.zeroValue127
  t173 := Tryz.underlying130
  a173 := Tryz.isAgg130
  z173 := Tryz.sizeOf130
  v173 := Tryz.zeroValue130
  t212 := Tryz.underlying156
  a212 := Tryz.isAgg156
  z212 := Tryz.sizeOf156
  v212 := Tryz.zeroValue156
  t213 := Tryz.underlying157
  a213 := Tryz.isAgg157
  z213 := Tryz.sizeOf157
  t232 := Tryz.underlying209
  a232 := Tryz.isAgg209
  z232 := Tryz.sizeOf209
  v232 := Tryz.zeroValue209
  t233 := Tryz.underlying210
  a233 := Tryz.isAgg210
  z233 := Tryz.sizeOf210
  v233 := Tryz.zeroValue210
  g17 := by kernel_rfl
  g18 := by kernel_rfl
  g19 := by kernel_rfl
  i0 := by kernel_rfl
  i2 := by kernel_rfl
  i3 := by kernel_rfl
  i4 := by kernel_rfl
  i5 := by kernel_rfl
  i9 := by kernel_rfl
  i20 := by kernel_rfl
  i37 := by kernel_rfl
  i46 := by kernel_rfl
  i51 := by kernel_rfl
  i53 := by kernel_rfl
  i171 := by kernel_rfl
  i173 := by kernel_rfl
  i212 := by kernel_rfl
  i232 := by kernel_rfl
  i233 := by kernel_rfl
  m17 := by kernel_rfl
  m18 := by kernel_rfl
  m19 := by kernel_rfl }
def tabB : Nat := 5
def tabC : Array Value := (Lib.pow10Tab.map fun z => Value.int .u64 z).toArray
def Tab (I : Im) : Prop := I tabB = some tabC
theorem Tab.up {I J : Im} (hl : Im.le I J) (h : Tab I) : Tab J := hl _ _ h
def AV.tab (x : AV) : AV := ⟨fun I v => x.h I v ∧ Tab I, fun I J v hl h => ⟨x.up I J v hl h.1, h.2.up hl⟩⟩
theorem At.tab {Γ : Env} {g : Bool} {t : Nat} {o : Operand} {x y : AV} (h : Env.get t Γ = some (AV.tab y)) (k : At Γ g o x) : At Γ g o (AV.tab x) := fun I a he hg => ⟨k I a he hg, (he t _ h).2⟩
theorem At.untab {Γ : Env} {g : Bool} {t : Nat} {y : AV} (h : Env.get t Γ = some (AV.tab y)) : At Γ g (.tmp t) y := fun I a he _ => (he t _ h).1
theorem Step.of_below {I : Im} {w w' : World} (hm : Models w I) (h : Below w.heap.size w w') : Step I w I w' :=
  ⟨Im.le_refl I, fun _ _ => rfl, fun b cs e => by
    obtain ⟨T, fr, k⟩ := hm b cs e
    exact ⟨T, fr, by rw [h.block b (hm.lt e)]; exact k⟩, h⟩
theorem drewN_same (w : World) : ∀ k, (w.drewN k).os = w.os ∧ (w.drewN k).output = w.output := fun k => by
  induction k generalizing w with
  | zero => exact ⟨rfl, rfl⟩
  | succ k ih => exact ih w.drew
theorem below_grow (w : World) (k : Nat) (os : Array Obj) : Below w.heap.size w (Go.Sort.grow (w.drewN k) os) := by
  refine ⟨by simp [Go.Sort.grow]; exact (drewN_same w k).1, by simp [Go.Sort.grow], by simp [Go.Sort.grow]; exact (drewN_same w k).2, ?_, fun b hb => ?_⟩
  · simp [Go.Sort.grow]
  · simp [Go.Sort.grow, Array.getElem?_append, hb]
theorem c_strconv_Itoa (n : Int) (h : i64r n) : Fn Tryz.prog 37 [AV.tab (AV.int n)] (AV.text (dec n)) := by
  refine ⟨Enters.of Tryz.func37 rfl (by kernel_rfl), fun I w vs hm ha => ?_⟩
  obtain ⟨vs⟩ := vs
  match vs, ha with
  | [v], ha =>
    obtain ⟨⟨hv, ht⟩, _⟩ := ha
    have hv : v = .int .i64 n := hv
    subst hv
    obtain ⟨T, fr, hw⟩ := hm _ _ ht
    refine (Any.strconv_Itoa layItoa n h.1 h.2 w ?_).mono ?_
    · unfold Lib.TabIs World.var?
      rw [show Program.globalNamed Tryz.prog _ = some tabB from by kernel_rfl]
      simp only [Option.bind_some, hw]
      rfl
    · rintro e w' ⟨rfl, k, os, rfl⟩
      exact ⟨I, Step.of_below hm (below_grow w k os), rfl⟩
def ptrCell (b : Nat) (o : Nat) : List AV := [.val (.pointer (some ⟨b, o, none⟩))]
theorem c_impl_forms_1 (b : Nat) :
    Fn Tryz.prog 50 [AV.val (.pointer (some ⟨b, 0, none⟩))] (AV.rows 1 ([2].map (ptrCell b))) := by
 refine Fn.intro 7 Tryz.func50 rfl Tryz.ntmps50 rfl (by kernel_rfl) (fun W I a hs => ?_)
 refine sr <| hs.sc fun hs => nn <| sr <| hs.m fun hs => ?_
 refine hs.o .nl fun hs => ?_
 refine hs.o .fv fun hs => ?_
 refine hs.o (ok_litAll (lxs := [_]) un79 ty83 rfl zo83 rfl rfl (Parts.c rfl rfl .tt (by first | exact one_val rfl | exact one_rows | exact one_ptr | exact one_fn) Parts.nil) rfl (by simp only [List.forall_mem_cons]; exact ⟨rfl, fun _ h => by simp at h⟩)) fun hs => ?_
 refine hs.s fun hs => nn <| wp_ret ?_
 refine hs.rt ?_
 rfl
theorem c_impl_forms_2 (b : Nat) :
    Fn Tryz.prog 51 [AV.val (.pointer (some ⟨b, 0, none⟩))] (AV.rows 1 ([3].map (ptrCell b))) := by
 refine Fn.intro 7 Tryz.func51 rfl Tryz.ntmps51 rfl (by kernel_rfl) (fun W I a hs => ?_)
 refine sr <| hs.sc fun hs => nn <| sr <| hs.m fun hs => ?_
 refine hs.o .nl fun hs => ?_
 refine hs.o .fv fun hs => ?_
 refine hs.o (ok_litAll (lxs := [_]) un79 ty83 rfl zo83 rfl rfl (Parts.c rfl rfl .tt (by first | exact one_val rfl | exact one_rows | exact one_ptr | exact one_fn) Parts.nil) rfl (by simp only [List.forall_mem_cons]; exact ⟨rfl, fun _ h => by simp at h⟩)) fun hs => ?_
 refine hs.s fun hs => nn <| wp_ret ?_
 refine hs.rt ?_
 rfl
theorem c_impl_forms_3 (b : Nat) :
    Fn Tryz.prog 52 [AV.val (.pointer (some ⟨b, 0, none⟩))] (AV.rows 1 ([1].map (ptrCell b))) := by
 refine Fn.intro 7 Tryz.func52 rfl Tryz.ntmps52 rfl (by kernel_rfl) (fun W I a hs => ?_)
 refine sr <| hs.sc fun hs => nn <| sr <| hs.m fun hs => ?_
 refine hs.o .nl fun hs => ?_
 refine hs.o .fv fun hs => ?_
 refine hs.o (ok_litAll (lxs := [_]) un79 ty83 rfl zo83 rfl rfl (Parts.c rfl rfl .tt (by first | exact one_val rfl | exact one_rows | exact one_ptr | exact one_fn) Parts.nil) rfl (by simp only [List.forall_mem_cons]; exact ⟨rfl, fun _ h => by simp at h⟩)) fun hs => ?_
 refine hs.s fun hs => nn <| wp_ret ?_
 refine hs.rt ?_
 rfl
theorem c_impl_forms_4 (b : Nat) :
    Fn Tryz.prog 53 [AV.val (.pointer (some ⟨b, 0, none⟩))] (AV.rows 1 ([2, 7, 10].map (ptrCell b))) := by
 refine Fn.intro 13 Tryz.func53 rfl Tryz.ntmps53 rfl (by kernel_rfl) (fun W I a hs => ?_)
 refine sr <| hs.sc fun hs => nn <| wp_seq <| hs.dk <| .o .mv ?_
 refine .o .nl ?_
 refine .o .fv <| .o .mv ?_
 refine .o .nl ?_
 refine .o .fv <| .o .mv ?_
 refine .o .nl ?_
 refine .o .fv ?_
 refine .o (ok_litAll (lxs := [_, _, _]) un79 ty83 rfl zo83 rfl rfl (Parts.c rfl rfl .tt (by first | exact one_val rfl | exact one_rows | exact one_ptr | exact one_fn) (Parts.c rfl rfl .tt (by first | exact one_val rfl | exact one_rows | exact one_ptr | exact one_fn) (Parts.c rfl rfl .tt (by first | exact one_val rfl | exact one_rows | exact one_ptr | exact one_fn) Parts.nil))) rfl (by simp only [List.forall_mem_cons]; exact ⟨rfl, ⟨rfl, ⟨rfl, fun _ h => by simp at h⟩⟩⟩)) ?_
 refine .o .as <| .nil ?_
 intro I a w hs
 refine then_n <| wp_ret ?_
 refine hs.rt ?_
 rfl
theorem c_impl_forms_5 (b : Nat) :
    Fn Tryz.prog 54 [AV.val (.pointer (some ⟨b, 0, none⟩))] (AV.rows 1 ([2, 7, 8, 9].map (ptrCell b))) := by
 refine Fn.intro 16 Tryz.func54 rfl Tryz.ntmps54 rfl (by kernel_rfl) (fun W I a hs => ?_)
 refine sr <| hs.sc fun hs => nn <| wp_seq <| hs.dk <| .o .mv ?_
 refine .o .nl ?_
 refine .o .fv <| .o .mv ?_
 refine .o .nl ?_
 refine .o .fv <| .o .mv ?_
 refine .o .nl ?_
 refine .o .fv <| .o .mv ?_
 refine .o .nl ?_
 refine .o .fv ?_
 refine .o (ok_litAll (lxs := [_, _, _, _]) un79 ty83 rfl zo83 rfl rfl (Parts.c rfl rfl .tt (by first | exact one_val rfl | exact one_rows | exact one_ptr | exact one_fn) (Parts.c rfl rfl .tt (by first | exact one_val rfl | exact one_rows | exact one_ptr | exact one_fn) (Parts.c rfl rfl .tt (by first | exact one_val rfl | exact one_rows | exact one_ptr | exact one_fn) (Parts.c rfl rfl .tt (by first | exact one_val rfl | exact one_rows | exact one_ptr | exact one_fn) Parts.nil)))) rfl (by simp only [List.forall_mem_cons]; exact ⟨rfl, ⟨rfl, ⟨rfl, ⟨rfl, fun _ h => by simp at h⟩⟩⟩⟩)) ?_
 refine .o .as <| .nil ?_
 intro I a w hs
 refine then_n <| wp_ret ?_
 refine hs.rt ?_
 rfl
theorem c_impl_forms_6 (b : Nat) :
    Fn Tryz.prog 55 [AV.val (.pointer (some ⟨b, 0, none⟩))] (AV.rows 1 ([1, 5].map (ptrCell b))) := by
 refine Fn.intro 10 Tryz.func55 rfl Tryz.ntmps55 rfl (by kernel_rfl) (fun W I a hs => ?_)
 refine sr <| hs.sc fun hs => nn <| wp_seq <| hs.dk <| .o .mv ?_
 refine .o .nl ?_
 refine .o .fv <| .o .mv ?_
 refine .o .nl ?_
 refine .o .fv ?_
 refine .o (ok_litAll (lxs := [_, _]) un79 ty83 rfl zo83 rfl rfl (Parts.c rfl rfl .tt (by first | exact one_val rfl | exact one_rows | exact one_ptr | exact one_fn) (Parts.c rfl rfl .tt (by first | exact one_val rfl | exact one_rows | exact one_ptr | exact one_fn) Parts.nil)) rfl (by simp only [List.forall_mem_cons]; exact ⟨rfl, ⟨rfl, fun _ h => by simp at h⟩⟩)) ?_
 refine .o .as <| .nil ?_
 intro I a w hs
 refine then_n <| wp_ret ?_
 refine hs.rt ?_
 rfl
def formFn (j : Nat) : Nat := [53, 54, 50, 50, 51, 51, 51, 52, 52, 52, 55].getD j 0
def formAt (j : Nat) : Form := formsL.getD j default
def formCells (j : Nat) : List AV := .text (formAt j).word :: ((formAt j).ev.cells ++ [.val (.func (.func (formFn j)) #[] #[])])
theorem form_fields (b : Nat) : ∀ j, j < 11 → FnV Tryz.prog (.val (.func (.func (formFn j)) #[] #[])) [.val (.pointer (some ⟨b, 0, none⟩))] (.rows 1 ((formAt j).offs.map (ptrCell b)))
  | 0, _ => Fn.valF (c_impl_forms_4 b)
  | 1, _ => Fn.valF (c_impl_forms_5 b)
  | 2, _ => Fn.valF (c_impl_forms_1 b)
  | 3, _ => Fn.valF (c_impl_forms_1 b)
  | 4, _ => Fn.valF (c_impl_forms_2 b)
  | 5, _ => Fn.valF (c_impl_forms_2 b)
  | 6, _ => Fn.valF (c_impl_forms_2 b)
  | 7, _ => Fn.valF (c_impl_forms_3 b)
  | 8, _ => Fn.valF (c_impl_forms_3 b)
  | 9, _ => Fn.valF (c_impl_forms_3 b)
  | 10, _ => Fn.valF (c_impl_forms_6 b)
theorem form_offs : ∀ j, j < 11 → ∀ o ∈ (formAt j).offs, o < 11 := by
  have : ∀ j : Fin 11, ∀ o ∈ (formAt j.val).offs, o < 11 := by decide
  exact fun j hj => this ⟨j, hj⟩
theorem form_offs_len : ∀ j, j < 11 → (formAt j).offs.length ≤ 4 := by
  have : ∀ j : Fin 11, (formAt j.val).offs.length ≤ 4 := by decide
  exact fun j hj => this ⟨j, hj⟩
theorem form_word_len : ∀ j, j < 11 → (formAt j).word.length ≤ 7 := by
  have : ∀ j : Fin 11, (formAt j.val).word.length ≤ 7 := by decide
  exact fun j hj => this ⟨j, hj⟩
def madeTo (j : Nat) (e : Ev) (k : Nat) : List Int := ((formAt j).offs.take k).foldl (fun m o => m.set o (e.ints.getD o 0)) (formAt j).ev.ints
theorem set_len {e : Ev} : ∀ (os : List Nat) (m : List Int), (os.foldl (fun m o => m.set o (e.ints.getD o 0)) m).length = m.length
  | [], m => rfl
  | o :: os, m => by rw [List.foldl_cons, set_len os]; simp
theorem madeTo_len (j : Nat) (e : Ev) (k : Nat) : (madeTo j e k).length = 11 := by unfold madeTo; rw [set_len]; rfl
theorem madeTo_succ {j : Nat} {e : Ev} {k : Nat} (h : k < (formAt j).offs.length) : ((madeTo j e k).map AV.int).set (elt (formAt j).offs k) (.int (e.ints.getD (elt (formAt j).offs k) 0)) = (madeTo j e (k + 1)).map AV.int := by
  unfold madeTo
  rw [take_elt h, List.foldl_append]
  simp only [List.foldl_cons, List.foldl_nil, List.map_set]
theorem madeTo_all {j : Nat} {e : Ev} {k : Nat} (h : (formAt j).offs.length ≤ k) : madeTo j e k = (formAt j).made e := by
  unfold madeTo Form.made; rw [List.take_of_length_le h]
def lineTo (j : Nat) (e : Ev) (k : Nat) : List UInt8 := (formAt j).word ++ fieldsB (((formAt j).vals e).take k)
theorem lineTo_succ {j : Nat} {e : Ev} {k : Nat} (h : k < (formAt j).offs.length) : lineTo j e k ++ ([32] ++ dec (e.ints.getD (elt (formAt j).offs k) 0)) = lineTo j e (k + 1) := by
  unfold lineTo Form.vals
  rw [← List.map_take, ← List.map_take, take_elt h]
  simp [fieldsB]
theorem ints_get {e : Ev} {q : Nat} (h : q < 11) : e.cells[q]? = some (AV.int (e.ints.getD q 0)) := by
  rw [Ev.cells_ints, List.getElem?_map, List.getD_eq_getElem?_getD, List.getElem?_eq_getElem (show q < e.ints.length from h)]; rfl
theorem ints_mem {e : Ev} {q : Nat} (h : q < 11) : e.ints.getD q 0 ∈ e.ints := by
  rw [List.getD_eq_getElem?_getD, List.getElem?_eq_getElem (show q < e.ints.length from h)]; exact List.getElem_mem _
theorem eltW_mem {l : List Nat} {k : Nat} (h : k < l.length) : elt l k ∈ l := by
  unfold elt; rw [List.getD_eq_getElem?_getD, List.getElem?_eq_getElem h]; exact List.getElem_mem _
theorem lineTo_len {j : Nat} {e : Ev} {k : Nat} (hj : j < 11) (he : e.Fit) : (lineTo j e k).length ≤ 95 := by
  have h1 := form_word_len j hj
  have h2 := form_offs_len j hj
  have h3 : ((formAt j).vals e).length = (formAt j).offs.length := by simp [Form.vals]
  have h4 : ∀ n ∈ ((formAt j).vals e).take k, i64r n := fun n hn => by
    have hn := List.mem_of_mem_take hn
    obtain ⟨o, ho, rfl⟩ := List.mem_map.1 hn
    exact he _ (ints_mem (form_offs j hj o ho))
  have h5 := fields_len h4
  have h6 : (((formAt j).vals e).take k).length ≤ 4 := by simp [h3]; omega
  unfold lineTo
  rw [List.length_append]; omega
theorem write_bad {j : Nat} {e : Ev} {k : Nat} (h : k < (formAt j).offs.length) (hw : written (e.ints.getD (elt (formAt j).offs k) 0) = false) : (formAt j).write e = [] := by
  unfold Form.write
  rw [if_neg]
  intro hh
  simp only [Bool.and_eq_true, List.all_eq_true] at hh
  have := hh.1 _ (List.mem_map_of_mem (f := fun o => e.ints.getD o 0) (eltW_mem h))
  rw [this] at hw; cases hw
theorem write_ne {j : Nat} {e : Ev} (h : (formAt j).made e ≠ e.ints) : (formAt j).write e = [] := by
  unfold Form.write; rw [if_neg]; simp [h]
theorem write_ok {j : Nat} {e : Ev} {k : Nat} (hk : (formAt j).offs.length ≤ k) (hw : ∀ i, i < k → i < (formAt j).offs.length → written (e.ints.getD (elt (formAt j).offs i) 0) = true) (h : (formAt j).made e = e.ints) : (formAt j).write e = lineTo j e k ++ [10] := by
  unfold Form.write lineTo
  rw [List.take_of_length_le (by simp [Form.vals]; omega), if_pos]
  simp only [Bool.and_eq_true, List.all_eq_true, decide_eq_true_eq]
  refine ⟨fun n hn => ?_, h⟩
  obtain ⟨o, ho, rfl⟩ := List.mem_map.1 hn
  obtain ⟨i, hi, rfl⟩ := List.getElem_of_mem ho
  have := hw i (by omega) hi
  simpa [elt, hi] using this
theorem c_impl_forms  :
    Fn Tryz.prog 34 [] (AV.rows 13 ((List.range 11).map formCells)) := by
 refine Fn.intro 35 Tryz.func34 rfl Tryz.ntmps34 rfl (by kernel_rfl) (fun W I a hs => ?_)
 refine sr <| hs.sc fun hs => nn <| sr <| hs.o (ok_assign .f) fun hs => nn <| sr <| hs.o (ok_assign .f) fun hs => nn <| sr <| hs.o (ok_assign .f) fun hs => nn <| sr ?_
 refine hs.o (.bd zc50 (.k (.k Parts.nil))) fun hs => ?_
 refine hs.o (.bd zc78 (.k (.t (Parts.c sp78_2 rfl .f (by first | exact one_val rfl | exact one_rows | exact one_ptr | exact one_fn) Parts.nil)))) fun hs => ?_
 refine hs.o (.bd zc50 (.k (.k Parts.nil))) fun hs => ?_
 refine hs.o (.bd zc78 (.k (.t (Parts.c sp78_2 rfl .f (by first | exact one_val rfl | exact one_rows | exact one_ptr | exact one_fn) Parts.nil)))) fun hs => ?_
 refine hs.o (.bd zc50 (.k Parts.nil)) fun hs => ?_
 refine hs.m fun hs => ?_
 refine hs.o (.bd zc78 (.k (.t (.k Parts.nil)))) fun hs => ?_
 refine hs.o (.bd zc50 (.k Parts.nil)) fun hs => ?_
 refine hs.m fun hs => ?_
 refine hs.o (.bd zc78 (.k (.t (.k Parts.nil)))) fun hs => ?_
 refine hs.o (.bd zc50 (.k Parts.nil)) fun hs => ?_
 refine hs.m fun hs => ?_
 refine hs.o (.bd zc78 (.k (.t (.k Parts.nil)))) fun hs => ?_
 refine hs.o (.bd zc50 (.k (.k Parts.nil))) fun hs => ?_
 refine hs.m fun hs => ?_
 refine hs.o (.bd zc78 (.k (.t (.k Parts.nil)))) fun hs => ?_
 refine hs.o (.bd zc50 (.k Parts.nil)) fun hs => ?_
 refine hs.m fun hs => ?_
 refine hs.o (.bd zc78 (.k (.t (.k Parts.nil)))) fun hs => ?_
 refine hs.o (.bd zc50 (.k Parts.nil)) fun hs => ?_
 refine hs.m fun hs => ?_
 refine hs.o (.bd zc78 (.k (.t (.k Parts.nil)))) fun hs => ?_
 refine hs.o (.bd zc50 (.k Parts.nil)) fun hs => ?_
 refine hs.m fun hs => ?_
 refine hs.o (.bd zc78 (.k (.t (.k Parts.nil)))) fun hs => ?_
 refine hs.o (.bd zc50 (.k Parts.nil)) fun hs => ?_
 refine hs.m fun hs => ?_
 refine hs.o (.bd zc78 (.k (.t (.k Parts.nil)))) fun hs => ?_
 refine hs.o (.bd zc50 (.k Parts.nil)) fun hs => ?_
 refine hs.o (.bd zc78 (.k (.t (Parts.c sp78_2 rfl .f (by first | exact one_val rfl | exact one_rows | exact one_ptr | exact one_fn) Parts.nil)))) fun hs => ?_
 refine hs.o (ok_litAll (lxs := [_, _, _, _, _, _, _, _, _, _, _]) un74 ty78 rfl zo78 rfl rfl (Parts.s rfl rfl rfl .tt (Parts.s rfl rfl rfl .tt (Parts.s rfl rfl rfl .tt (Parts.s rfl rfl rfl .tt (Parts.s rfl rfl rfl .tt (Parts.s rfl rfl rfl .tt (Parts.s rfl rfl rfl .tt (Parts.s rfl rfl rfl .tt (Parts.s rfl rfl rfl .tt (Parts.s rfl rfl rfl .tt (Parts.s rfl rfl rfl .tt Parts.nil))))))))))) rfl (by simp only [List.forall_mem_cons]; exact ⟨rfl, ⟨rfl, ⟨rfl, ⟨rfl, ⟨rfl, ⟨rfl, ⟨rfl, ⟨rfl, ⟨rfl, ⟨rfl, ⟨rfl, fun _ h => by simp at h⟩⟩⟩⟩⟩⟩⟩⟩⟩⟩⟩)) fun hs => ?_
 refine hs.s fun hs => nn <| wp_ret ?_
 refine hs.rt ?_
 rfl
theorem c_impl_form_write (j : Nat) (hj : j < 11) (e : Ev) (he : e.Fit) :
    Fn Tryz.prog 39 [AV.agg (formCells j), AV.tab e.av] (AV.text ((formAt j).write e)) := by
 refine Fn.intro 52 Tryz.func39 rfl Tryz.ntmps39 rfl (by kernel_rfl) (fun W I a hs => ?_)
 have h4 := form_offs_len j hj
 refine sr <| hs.o .bp fun hs => hs.box rfl (.untab rfl) fun b3 I a w hs => hs.sc fun hs => nn <| sr <| hs.o .fp fun hs => hs.o .l1 fun hs => hs.s fun hs => nn <| sr <| hs.o .fp fun hs => ?_
 refine hs.o .la fun hs => ?_
 refine hs.alloc rfl ty50 zc50 fun b6 I a w hs => ?_
 refine hs.sb 1 fun hs => ?_
 refine nn <| sr <| hs.o .fp fun hs => hs.o .l1 fun hs => hs.o (ok_callV (form_fields _ j hj) .tt (args_cons .tt args_nil)) fun hs => hs.s fun hs => nn <| wp_seq <| sr <| hs.o .fp fun hs => hs.o .l1 fun hs => hs.o (ok_callV (form_fields _ j hj) .tt (args_cons .tt args_nil)) fun hs => ?_
 refine hs.o .ln fun hs => ?_
 refine hs.mc fun hs => nn <| wp_block ?_
 refine St.loopS (σ := Nat) (run 2 4 (run 2 8 (run 26 21 []))) ⟨fun k => [(21, AV.int k), (5, AV.text (lineTo j e k))], fun k => [Own.box b3 50 e.cells, Own.box b6 50 ((madeTo j e k).map AV.int)], fun k => k ≤ (formAt j).offs.length ∧ ∀ i, i < k → i < (formAt j).offs.length → written (e.ints.getD (elt (formAt j).offs i) 0) = true⟩ (fun k => (formAt j).offs.length - k) 0 hs rfl ?ok1 ?env1 ?round1
 case ok1 => exact ⟨by omega, fun i hi => by omega⟩
 case env1 => exact (Env.le_consE rfl (by rfl) (Env.le_consE rfl (by simp [lineTo, fieldsB]) Env.le_nil))
 case round1 =>
  rintro k I a w hok hs
  obtain ⟨hk, hall⟩ := hok
  change St _ _ [Own.box b3 50 e.cells, Own.box b6 50 ((madeTo j e k).map AV.int)] _ _ _ at hs
  refine sr <| hs.o .lss fun hs => nn <| wp_seq ?_
  refine hs.cd (fun hb1 => ?_) fun hb1 => ?_
  ·try simp only [B] at hb1
   refine wp_skip <| then_n <| wp_seq <| wp_block <| sr <| hs.m fun hs => ?_
   refine hs.o .ix fun hs => ?_
   refine hs.o .l1 fun hs => hs.s fun hs => hs.s fun hs => nn <| wp_seq <| sr <| hs.m fun hs => ?_
   refine hs.o .nl fun hs => ?_
   refine hs.o (ok_loadB 0 ty3 .tt rfl (ints_get (form_offs j hj _ (eltW_mem hb1)))) fun hs => hs.o (.c1 (c_impl_isWritten ..)) fun hs => hs.o .nt fun hs => nn ?_
   refine hs.cd (fun hb2 => ?_) fun hb2 => ?_
   ·try simp only [B] at hb2
    refine sr <| hs.sc fun hs => nn <| wp_ret <| then_r <| block_r <| then_r <| then_r <| block_r <| then_r ?_
    refine hs.rt ?_
    exact ret_av (congrArg AV.text (write_bad hb1 hb2).symm)
   ·try simp only [B] at hb2
    refine wp_skip <| then_n <| wp_seq ?_
    refine hs.drawT 8 (by kernel_rfl) (by kernel_rfl) (by kernel_rfl) ?_
    simp only [List.take_succ_cons, List.take_zero, List.drop_succ_cons, List.drop_zero]
    refine .o .mv <| .o .mv ?_
    refine .o .ix ?_
    refine .o .l1 <| .o .mv ?_
    refine .o .nl ?_
    refine .o (ok_loadB 0 ty3 .tt rfl (ints_get (form_offs j hj _ (eltW_mem hb1)))) ?_
    refine .o .nl ?_
    refine .nil ?_
    intro I a w hs
    refine hs.store1 1 ty3 .tt .tt (by first | exact one_val rfl | exact one_rows | exact one_ptr | exact one_fn) rfl (Nat.ble_eq_true_of_le (by simp only [List.length_map, madeTo_len]; exact form_offs j hj _ (eltW_mem hb1))) fun a w hs => ?_
    refine nn <| St.region <| hs.m fun hs => hs.m fun hs => ?_
    refine hs.o .nl fun hs => ?_
    refine hs.o (ok_loadB 0 ty3 .tt rfl (ints_get (form_offs j hj _ (eltW_mem hb1)))) fun hs => hs.o (ok_call (c_strconv_Itoa _ (he _ (ints_mem (form_offs j hj _ (eltW_mem hb1))))) (args_cons (.tab (t := 1) rfl .tt) args_nil)) fun hs => ?_
    refine hs.o (ok_cat .c .tt (fun _ => by have := dec_len (he _ (ints_mem (e := e) (form_offs j hj _ (eltW_mem hb1)))); simp only [List.length_cons, List.length_nil]; omega)) fun hs => ?_
    refine hs.o (ok_cat .tt .tt (fun _ => by have := dec_len (he _ (ints_mem (e := e) (form_offs j hj _ (eltW_mem hb1)))); have := lineTo_len (k := k) hj he; simp only [List.length_append, List.length_cons, List.length_nil]; omega)) fun hs => ?_
    refine hs.s fun hs => wpList_nil <| block_n <| then_n <| St.region ?_
    refine hs.o .ad fun hs => ?_
    refine hs.m fun hs => nn ?_
    change St _ _ [Own.box b3 50 e.cells, Own.box b6 50 (((madeTo j e k).map AV.int).set (elt (formAt j).offs k) (.int (e.ints.getD (elt (formAt j).offs k) 0)))] _ _ _ at hs
    rw [madeTo_succ hb1] at hs
    refine hs.again (k + 1) ?mu1 ?ok1001 (by rfl) ?env1001 (by repeat (first | exact Env.le_rfl | refine Env.le_push rfl ?_))
    case mu1 => omega
    case ok1001 => exact ⟨hb1, fun i h1 h2 => by rcases Nat.lt_succ_iff_lt_or_eq.1 h1 with h | h; exact hall i h h2; rw [h]; exact hb2⟩
    case env1001 => exact (Env.le_consE rfl (by rfl) (Env.le_consE rfl (by exact congrArg AV.text (lineTo_succ hb1)) Env.le_nil))
  ·try simp only [B] at hb1
   refine wp_exit <| then_x <| then_x <| block_hit <| then_n <| wp_seq <| sr ?_
   rw [madeTo_all (by omega)] at hs
   have hml : ((formAt j).made e).length = 11 := by have := madeTo_len j e k; rwa [madeTo_all (by omega)] at this
   have hld : ((((formAt j).made e).map AV.int).drop 0).take 11 = ((formAt j).made e).map AV.int := by rw [List.drop_zero, List.take_of_length_le (by simp [hml])]
   refine hs.o (ok_loadBS 1 ty50 .tt rfl hld (by simpa using hml)) fun hs => ?_
   refine hs.o (.ls 0) fun hs => hs.o (ok_neS ((formAt j).made e) e.ints eqt50 hml rfl .tt .tt) fun hs => nn ?_
   refine hs.cd (fun hb3 => ?_) fun hb3 => ?_
   ·try simp only [B] at hb3
    refine sr <| hs.sc fun hs => nn <| wp_ret <| then_r ?_
    refine hs.rt ?_
    exact ret_av (congrArg AV.text (write_ne hb3).symm)
   ·try simp only [B] at hb3
    refine wp_skip <| then_n <| sr <| hs.m fun hs => ?_
    refine hs.o (ok_cat .tt .c (fun _ => by have := lineTo_len (k := k) hj he; simp only [List.length_cons, List.length_nil]; omega)) fun hs => ?_
    refine hs.s fun hs => nn <| wp_ret ?_
    refine hs.rt ?_
    exact ret_av (congrArg AV.text (write_ok (by omega) hall hb3).symm)
end Go.Proofs.YtkoebplikhlapaaGreatDoor
