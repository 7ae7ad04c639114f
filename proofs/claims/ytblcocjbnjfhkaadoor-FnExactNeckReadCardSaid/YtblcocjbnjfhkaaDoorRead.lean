/- FnExactNeckRead: for every text the program's NeckRead returns the events and the number that the reference returns, in memory that it shares with no other call. Conditions: none of ours; the row lists seven variables of the library, which the card ties. -/
import Derived.Test.YtblcocjbnjfhkaaDoorWalkD
set_option linter.unusedVariables false
set_option linter.unusedSimpArgs false
set_option maxRecDepth 100000
namespace Go.Proofs.YtblcocjbnjfhkaaDoor
open Go Go.RowKit


open Go.ChangeShapes Go.WideShapes Go.ChangeAt
namespace FnRead2
theorem trod_iface {P : Program} {W : World} {sp : Nat → Bool} {fuel : Nat} {t : TypeId} {ms : Array (String × TypeId)} {cs : List Value} {n : String} {d : DataW Unit} {p : List MemPlace} (ht : P.underlying t = some (.interface ms)) (h : DataW.trod (fun _ => ()) P W 0 sp false fuel t cs = some (.iface n d, p)) : ∃ u v, cs = [.iface u v] := by
  cases fuel with
  | zero => simp [DataW.trod] at h
  | succ k =>
    unfold DataW.trod at h
    rw [ht] at h
    split at h <;> simp_all
/-- A variable of an interface's type that the list lays holds something. -/
theorem sentinel {W : World} {n m : String} {d : DataW Unit} {g : Nat} (hg : Tryd.prog.globalNamed n = some g) (hty : (Tryd.prog.globals[g]?).map (·.type) = some 46) (h : laidMet Tryd.prog [(n, .iface m d)] W) : ∃ cs t p, memI W g = some cs ∧ cs[0]? = some (.iface t p) := by
  obtain ⟨ps, ⟨g', t', cs, fuel, p, q, hg', ht', hvar, hd, _, _⟩, _⟩ := h
  obtain rfl := Option.some.inj (hg.symm.trans hg')
  obtain rfl := Option.some.inj (hty.symm.trans ht')
  obtain ⟨u, v, e⟩ := trod_iface Tryd.underlying46 hd
  unfold World.var? at hvar
  rw [hg] at hvar
  simp only [Option.bind_some] at hvar
  split at hvar
  · rename_i cs' T fr hb
    cases hvar
    exact ⟨_, u, v, memI_at hb, by rw [← Array.getElem?_toList, e]; rfl⟩
  · cases hvar
theorem tabs_of {W : World} (h : laidMetH Tryd.prog Rows.fnExactNeckReadRow.laid W) (hsh : W.ShapedOpen Tryd.prog) : Tab4 (memI W) := by
  refine ⟨?_, ?_, ?_, ?_⟩
  · have h1 := h.filter fun x => x.1.length == 28
    have e : Rows.fnExactNeckReadRow.laid.filter (fun x => x.1.length == 28) = [(((Rows.fnExactNeckReadRow.laid)[2]'(by decide)).1, Lib.tabData .u64 Lib.pow10Tab)] := by kernel_rfl
    rw [e] at h1
    have h2 : laidMet Tryd.prog [(((Rows.fnExactNeckReadRow.laid)[2]'(by decide)).1, Lib.tabData .u64 Lib.pow10Tab)] W := h1
    have h3 := Lib.tabIs_of_head (rest := []) (g := tabB) (by kernel_rfl) FnWrite.gTabType (show Tryd.prog.underlying 112 = some (.array 20 88) by kernel_rfl) (show Tryd.prog.underlying 88 = some (.int .u64) by kernel_rfl) FnWrite.cellsU FnWrite.cellsT h2
    unfold Lib.TabIs World.var? at h3
    rw [show Tryd.prog.globalNamed _ = some tabB from by kernel_rfl] at h3
    simp only [Option.bind_some] at h3
    split at h3
    · rename_i cs T fr hb
      cases h3
      exact memI_at hb
    · cases h3
  · obtain ⟨m, hm⟩ := laySplitM.s1_3 W hsh
    obtain ⟨_, cs, T, fr, hb, hc⟩ := cell_heap hm
    exact ⟨cs, m, memI_at hb, hc⟩
  · have h1 := h.filter fun x => x.1.length == 17
    have e : Rows.fnExactNeckReadRow.laid.filter (fun x => x.1.length == 17) = [(((Rows.fnExactNeckReadRow.laid)[5]'(by decide)).1, Rows.laid_strconv_ErrSyntax)] := by kernel_rfl
    rw [e] at h1
    have h2 : laidMet Tryd.prog [(((Rows.fnExactNeckReadRow.laid)[5]'(by decide)).1, Rows.laid_strconv_ErrSyntax)] W := h1
    exact sentinel (g := 1) (by kernel_rfl) (by kernel_rfl) h2
  · have h1 := h.filter fun x => x.1.length == 16
    have e : Rows.fnExactNeckReadRow.laid.filter (fun x => x.1.length == 16) = [(((Rows.fnExactNeckReadRow.laid)[4]'(by decide)).1, Rows.laid_strconv_ErrRange)] := by kernel_rfl
    rw [e] at h1
    have h2 : laidMet Tryd.prog [(((Rows.fnExactNeckReadRow.laid)[4]'(by decide)).1, Rows.laid_strconv_ErrRange)] W := h1
    exact sentinel (g := 2) (by kernel_rfl) (by kernel_rfl) h2

/-- For every text, in every world that holds the variables. -/
theorem contract (H : Type) (enc : TypeId × Value → H) (W : World) (base : Nat) (args : Array Value) (ds gs : List (DataW H)) (before : List MemPlace)
    (hval : ∀ (j : Nat) t v, Tryd.f4.params[j]? = some t → args[j]? = some v → Value.okWide Tryd.prog W .any base t v)
    (hW : DataW.Whole enc Tryd.prog Tryd.f4.params.toList Rows.fnExactNeckReadSpec.vars false W args.toList ds gs before) (hL : laidMetH Tryd.prog Rows.fnExactNeckReadRow.laid W) (hsh : W.ShapedOpen Tryd.prog) :
    Calls Tryd.prog 4 args W fun e W' => ∃ v, e = .returned v ∧ Rows.fnExactNeckReadSpec.post enc Tryd.prog Tryd.f4 false true false false W args v W' := by
  have hW' := hW
  obtain ⟨p, q, hA0, hV, rfl, hfz, hnd⟩ := hW
  have hA : DataW.TrodAll enc Tryd.prog W 0 (fun _ => true) true Tryd.f4.params.toList args.toList ds p := hA0
  rw [Tryd.params4] at hA hval
  obtain ⟨v0, vs0, d0, ds0, p0, q0, hargs, rfl, rfl, h0, r0⟩ := trodAll_cons hA
  obtain ⟨rfl, rfl, rfl⟩ := trodAll_nil r0
  obtain rfl : args = #[v0] := by cases args; simp_all
  obtain ⟨rfl, rfl⟩ := trodVars_none hV
  clear hA0
  simp only [List.append_nil] at hW'
  have h00 := h0
  obtain ⟨s, rfl, rfl, rfl, hs⟩ := ChangeMaps.open_string Tryd.underlying9 (hval 0 9 v0 rfl rfl) h0
  have hl : (AV.text s.data.toList).h (memI W) (.string s) := by show Value.string s = Value.string ⟨s.data.toList.toArray⟩; simp
  have walk := (c_laws_FnExactNeckRead s.data.toList).2 (memI W) W #[.string s] (memI_models W) ⟨⟨hl, tabs_of hL hsh⟩, trivial⟩
  refine walk.mono fun e W' he => ?_
  cases e with
  | panicked _ => exact he.elim
  | outgrown => exact he.elim
  | returned v =>
    obtain ⟨I', hst, hv⟩ := he
    have hv : v = .bool true := hv
    subst hv
    refine ⟨_, rfl, post_of_below (pa := []) (pv := []) hW' (fun _ _ _ => trodAll_cons_mk (shut_bool Tryd.underlying4 _) trodAll_mk0) (fun sp hsp => ?_) (fun _ _ => rfl) (by simp) hst.below (ok_one (by kernel_rfl) rfl (okWide_bool_mk Tryd.underlying4 _))⟩
    have := WideElems.Trod_stays FnWrite.laidOut (by kernel_rfl) (of_decide_eq_true (by kernel_rfl)) h00 (W' := W') (sp' := sp) (fun x hx => by cases hx) (fun x hx => by cases hx)
    exact trodAll_cons_mk this (trodAll_mk0 (H := H) (enc := enc) (P := Tryd.prog) (w := W') (base := 0) (spare := sp) (held := true))

def allCells : DataW Unit → Array Value
  | .agg l => (l.flatMap fun d => match d with
    | .lit (.int k n) => [Value.int k n]
    | .agg m => m.filterMap fun x => match x with
      | .lit (.int k n) => some (Value.int k n)
      | _ => none
    | _ => []).toArray
  | _ => #[]
abbrev rngS : ByteArray := { data := #[118, 97, 108, 117, 101, 32, 111, 117, 116, 32, 111, 102, 32, 114, 97, 110, 103, 101] }
abbrev synS : ByteArray := { data := #[105, 110, 118, 97, 108, 105, 100, 32, 115, 121, 110, 116, 97, 120] }
/-- So many blocks has the settled world. -/
noncomputable def low : Nat := (World.holding Tryd.prog default ⟨#[], #[], []⟩).heap.size
/-- A world for the witness: the settled one, the variables holding what their initialisers lay. -/
noncomputable def laidWorld (os : Os) : World :=
  let w0 := World.holding Tryd.prog os ⟨#[.cells #[.string synS] 110, .cells #[.string rngS] 110], #[], []⟩
  { w0 with heap := (((((((w0.heap.modify 6 (FnWrite.setRow (allCells Rows.laid_math_bits_deBruijn32tab))).modify 7 (FnWrite.setRow (allCells Rows.laid_math_bits_deBruijn64tab))).modify 5 (FnWrite.setRow tabC)).modify 4 (FnWrite.setRow (allCells Rows.laid_unicode_utf8_acceptRanges))).modify 3 (FnWrite.setRow (allCells Rows.laid_unicode_utf8_first))).modify 1
      (FnWrite.setRow #[.iface 108 (.pointer (some ⟨low, 0, none⟩))])).modify 2 (FnWrite.setRow #[.iface 108 (.pointer (some ⟨low + 1, 0, none⟩))])) }
theorem laid_met (os : Os) : laidMet Tryd.prog Rows.fnExactNeckReadRow.laid ((laidWorld os).forCall (fun _ _ => 0) ⟨#[], #[.string ⟨#[]⟩], []⟩).memory :=
  laidMet_of_run' 8 (by kernel_rfl) (by kernel_rfl)
theorem reads (os : Os) {H : Type} (enc : TypeId × Value → H) : ∃ places, DataW.whole enc Tryd.prog ((laidWorld os).forCall (fun _ _ => 0) ⟨#[], #[.string ⟨#[]⟩], []⟩).memory Tryd.f4.params.toList Rows.fnExactNeckReadSpec.vars false #[Value.string ⟨#[]⟩].toList 8 = some ([.lit (.string [])], [], places) :=
  ⟨[], by kernel_rfl⟩
set_option maxRecDepth 100000 in
theorem lifted (os : Os) (started : os.Started) (H : Type) (enc : TypeId × Value → H) (F : Stop.Interp) :
    ReturnsInHanded {} Tryd.checked os 4 .any ((OpenSpec.ofChange Rows.fnExactNeckReadSpec).preRow enc Tryd.prog Tryd.f4 Rows.fnExactNeckReadRow.domain false Rows.fnExactNeckReadRow.laid) (((OpenSpec.ofChange Rows.fnExactNeckReadSpec).at F).post enc Tryd.prog Tryd.f4 false true false false) := by
  obtain ⟨places, hx⟩ := reads os enc
  refine returnsInHanded_of_row (C := Tryd.checked) (s := OpenSpec.ofChange Rows.fnExactNeckReadSpec) FnWrite.own started (by kernel_rfl) Tryd.func4
    (witness_row_at (enc := enc) (C := Tryd.checked) false (laidWorld os) #[.string ⟨#[]⟩] rfl (by kernel_rfl) (by kernel_rfl) (by kernel_rfl)
      (OpenSpec.preRow_of_cond 8 hx (by kernel_rfl) (fun k hk => by cases hk) (by kernel_rfl) (laid_met os))) ?_
  intro W base args ds gs before hval hW _ _ _ hL hsh _
  exact contract H enc W base args ds gs before hval hW hL hsh
theorem said : Rows.FnExactNeckReadSaid :=
  OpenClaim.holds_of_cond 4 Tryd.f4 rfl rfl rfl rfl rfl rfl rfl ⟨rfl, rfl, rfl, rfl, rfl⟩ rfl rfl rfl rfl rfl (by kernel_rfl) Tryd.func4 (by kernel_rfl)
    (of_decide_eq_true (by kernel_rfl)) (by unfold Func.isWrapper; first | (rw [if_pos (by decide +kernel)]; kernel_rfl) | (rw [if_neg (by decide +kernel)]; exact ⟨rfl, rfl⟩))
    (fun os started H enc _ F => by rw [OpenClaim.pre_eq_preRow]; exact lifted os started H enc F)
theorem plain (f : FuncId) (fn : Func) (hf : Tryd.pinned.checked.prog.funcNamed Rows.fnExactNeckReadRow.func = some f) (hfn : Tryd.pinned.checked.prog.funcs[f]? = some fn) :
    true = Tryd.pinned.checked.prog.looks [] ∧ ∀ (j : Nat) t, fn.params[j]? = some t → Tryd.pinned.checked.prog.wantsStandIn t = false := by
  obtain rfl : f = 4 := Option.some.inj ((show Tryd.prog.funcNamed Rows.fnExactNeckReadRow.func = some 4 by kernel_rfl).symm.trans hf) |>.symm
  obtain rfl : fn = Tryd.f4 := (Option.some.inj (Tryd.func4.symm.trans hfn)).symm
  refine ⟨by kernel_rfl, fun j t ht => ?_⟩
  rw [Tryd.params4] at ht
  obtain rfl : t = 9 := by simpa using Array.mem_of_getElem? ht
  exact (show Tryd.prog.wantsStandIn 9 = false by kernel_rfl)
end FnRead2
/-- The card. -/
theorem fnExactNeckRead_card : Rows.FnExactNeckReadCardSaid :=
  Claim7.holds_tied_plain_at .later [] _ _ _ _ FnRead2.said (fun _ h => by cases h) (by kernel_rfl) (fun _ h => by cases h) fnExactNeckRead_row_tie rfl ⟨rfl, rfl⟩ (by kernel_rfl) rfl FnRead2.plain (by kernel_rfl)

end Go.Proofs.YtblcocjbnjfhkaaDoor
