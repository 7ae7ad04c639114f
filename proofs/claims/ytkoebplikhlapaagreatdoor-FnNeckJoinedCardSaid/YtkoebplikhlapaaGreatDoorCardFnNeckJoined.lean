/- FnNeckJoined: for every input the law returns true: of two drawn texts the one behind the other is read as both. Conditions: none of ours; the row lists seven variables of the library, which the card ties. -/
import Derived.Test.YtkoebplikhlapaaGreatDoorP50
set_option linter.unusedVariables false
set_option linter.unusedSimpArgs false
set_option maxRecDepth 100000
namespace Go.Proofs.YtkoebplikhlapaaGreatDoor
open Go Go.RowKit
open Go.ChangeShapes Go.WideShapes Go.ChangeAt
namespace FrFnNeckJoined
theorem and_true {x y : Bool} (h : x = true) (k : y = true) : (x && y) = true := by rw [h, k]; rfl
theorem fact1 : (fun (P : Program) (f : FuncId) (fn : Func) (s : ChangeSpec) (c : OpenClaim) => c.wf (OpenSpec.ofChange s)) Tryz.prog 3 Tryz.f3 Rows.fnNeckJoinedSpec Rows.fnNeckJoinedRow = true := by kernel_rfl
theorem fact2 : (fun (P : Program) (f : FuncId) (fn : Func) (s : ChangeSpec) (c : OpenClaim) => laidOutB P) Tryz.prog 3 Tryz.f3 Rows.fnNeckJoinedSpec Rows.fnNeckJoinedRow = true := by kernel_rfl
theorem fact3 : (fun (P : Program) (f : FuncId) (fn : Func) (s : ChangeSpec) (c : OpenClaim) => mapsRowed P) Tryz.prog 3 Tryz.f3 Rows.fnNeckJoinedSpec Rows.fnNeckJoinedRow = true := by kernel_rfl
theorem fact4 : (fun (P : Program) (f : FuncId) (fn : Func) (s : ChangeSpec) (c : OpenClaim) => fn.params.all (P.readableRec ·)) Tryz.prog 3 Tryz.f3 Rows.fnNeckJoinedSpec Rows.fnNeckJoinedRow = true := by kernel_rfl
theorem fact5 : (fun (P : Program) (f : FuncId) (fn : Func) (s : ChangeSpec) (c : OpenClaim) => namedTie P c.named s.vars) Tryz.prog 3 Tryz.f3 Rows.fnNeckJoinedSpec Rows.fnNeckJoinedRow = true := by kernel_rfl
theorem fact6 : (fun (P : Program) (f : FuncId) (fn : Func) (s : ChangeSpec) (c : OpenClaim) => (c.stops == [])) Tryz.prog 3 Tryz.f3 Rows.fnNeckJoinedSpec Rows.fnNeckJoinedRow = true := by kernel_rfl
theorem fact7 : (fun (P : Program) (f : FuncId) (fn : Func) (s : ChangeSpec) (c : OpenClaim) => (P.stops == [])) Tryz.prog 3 Tryz.f3 Rows.fnNeckJoinedSpec Rows.fnNeckJoinedRow = true := by kernel_rfl
theorem fact8 : (fun (P : Program) (f : FuncId) (fn : Func) (s : ChangeSpec) (c : OpenClaim) => (c.knobs == [])) Tryz.prog 3 Tryz.f3 Rows.fnNeckJoinedSpec Rows.fnNeckJoinedRow = true := by kernel_rfl
theorem fact9 : (fun (P : Program) (f : FuncId) (fn : Func) (s : ChangeSpec) (c : OpenClaim) => (P.stopKnobs == [])) Tryz.prog 3 Tryz.f3 Rows.fnNeckJoinedSpec Rows.fnNeckJoinedRow = true := by kernel_rfl
theorem fact10 : (fun (P : Program) (f : FuncId) (fn : Func) (s : ChangeSpec) (c : OpenClaim) => (c.inPlace == P.inPlace f)) Tryz.prog 3 Tryz.f3 Rows.fnNeckJoinedSpec Rows.fnNeckJoinedRow = true := by kernel_rfl
theorem fact11 : (fun (P : Program) (f : FuncId) (fn : Func) (s : ChangeSpec) (c : OpenClaim) => (c.unfollowed == P.unfollowed f)) Tryz.prog 3 Tryz.f3 Rows.fnNeckJoinedSpec Rows.fnNeckJoinedRow = true := by kernel_rfl
theorem fact12 : (fun (P : Program) (f : FuncId) (fn : Func) (s : ChangeSpec) (c : OpenClaim) => (c.recurses == P.recurses f)) Tryz.prog 3 Tryz.f3 Rows.fnNeckJoinedSpec Rows.fnNeckJoinedRow = true := by kernel_rfl
theorem fact13 : (fun (P : Program) (f : FuncId) (fn : Func) (s : ChangeSpec) (c : OpenClaim) => (c.named == P.varsNamed f)) Tryz.prog 3 Tryz.f3 Rows.fnNeckJoinedSpec Rows.fnNeckJoinedRow = true := by kernel_rfl
theorem fact14 : (fun (P : Program) (f : FuncId) (fn : Func) (s : ChangeSpec) (c : OpenClaim) => (c.maps == (fn.params.toList ++ s.plain.varTypes P).any (P.mapsRec ·))) Tryz.prog 3 Tryz.f3 Rows.fnNeckJoinedSpec Rows.fnNeckJoinedRow = true := by kernel_rfl
theorem fact15 : (fun (P : Program) (f : FuncId) (fn : Func) (s : ChangeSpec) (c : OpenClaim) => (c.ifaces == (fn.params.toList ++ s.plain.varTypes P).any (P.ifacesRec ·))) Tryz.prog 3 Tryz.f3 Rows.fnNeckJoinedSpec Rows.fnNeckJoinedRow = true := by kernel_rfl
theorem fact16 : (fun (P : Program) (f : FuncId) (fn : Func) (s : ChangeSpec) (c : OpenClaim) => (c.mapsOut == P.mapsAmong fn.resultTypes.toList)) Tryz.prog 3 Tryz.f3 Rows.fnNeckJoinedSpec Rows.fnNeckJoinedRow = true := by kernel_rfl
theorem fact17 : (fun (P : Program) (f : FuncId) (fn : Func) (s : ChangeSpec) (c : OpenClaim) => (c.loops == (fn.params.toList ++ s.plain.varTypes P).any (P.loopsFrom ·))) Tryz.prog 3 Tryz.f3 Rows.fnNeckJoinedSpec Rows.fnNeckJoinedRow = true := by kernel_rfl
theorem fact18 : (fun (P : Program) (f : FuncId) (fn : Func) (s : ChangeSpec) (c : OpenClaim) => (c.wideKeys == (fn.params.toList ++ s.plain.varTypes P ++ fn.resultTypes.toList).any (P.wideKeysFrom ·))) Tryz.prog 3 Tryz.f3 Rows.fnNeckJoinedSpec Rows.fnNeckJoinedRow = true := by kernel_rfl
theorem fact19 : (fun (P : Program) (f : FuncId) (fn : Func) (s : ChangeSpec) (c : OpenClaim) => s.vars.all (P.varReadable ·)) Tryz.prog 3 Tryz.f3 Rows.fnNeckJoinedSpec Rows.fnNeckJoinedRow = true := by kernel_rfl
theorem fact20 : (fun (P : Program) (f : FuncId) (fn : Func) (s : ChangeSpec) (c : OpenClaim) => fn.resultTypes.all (fun t => P.readableRec t && decide (t < P.types.size))) Tryz.prog 3 Tryz.f3 Rows.fnNeckJoinedSpec Rows.fnNeckJoinedRow = true := by kernel_rfl
theorem fact21 : (fun (P : Program) (f : FuncId) (fn : Func) (s : ChangeSpec) (c : OpenClaim) => (c.ifacesOut == fn.resultTypes.toList.any (P.ifacesRec ·))) Tryz.prog 3 Tryz.f3 Rows.fnNeckJoinedSpec Rows.fnNeckJoinedRow = true := by kernel_rfl
theorem fact22 : (fun (P : Program) (f : FuncId) (fn : Func) (s : ChangeSpec) (c : OpenClaim) => (c.loopsOut == fn.resultTypes.toList.any (P.loopsFrom ·))) Tryz.prog 3 Tryz.f3 Rows.fnNeckJoinedSpec Rows.fnNeckJoinedRow = true := by kernel_rfl
theorem fact23 : (fun (P : Program) (f : FuncId) (fn : Func) (s : ChangeSpec) (c : OpenClaim) => (c.plainKeys == P.plainKeys)) Tryz.prog 3 Tryz.f3 Rows.fnNeckJoinedSpec Rows.fnNeckJoinedRow = true := by kernel_rfl
theorem fact24 : (fun (P : Program) (f : FuncId) (fn : Func) (s : ChangeSpec) (c : OpenClaim) => c.shortTexts.isNone) Tryz.prog 3 Tryz.f3 Rows.fnNeckJoinedSpec Rows.fnNeckJoinedRow = true := by kernel_rfl
theorem fact25 : (fun (P : Program) (f : FuncId) (fn : Func) (s : ChangeSpec) (c : OpenClaim) => P.stopsHeard) Tryz.prog 3 Tryz.f3 Rows.fnNeckJoinedSpec Rows.fnNeckJoinedRow = true := by kernel_rfl
theorem fact26 : (fun (P : Program) (f : FuncId) (fn : Func) (s : ChangeSpec) (c : OpenClaim) => P.mayEnter) Tryz.prog 3 Tryz.f3 Rows.fnNeckJoinedSpec Rows.fnNeckJoinedRow = true := by kernel_rfl
theorem fact27 : (fun (P : Program) (f : FuncId) (fn : Func) (s : ChangeSpec) (c : OpenClaim) => (c.lifted == P.liftsFinal)) Tryz.prog 3 Tryz.f3 Rows.fnNeckJoinedSpec Rows.fnNeckJoinedRow = true := by kernel_rfl
theorem fact28 : (fun (P : Program) (f : FuncId) (fn : Func) (s : ChangeSpec) (c : OpenClaim) => (P.make == some c.make)) Tryz.prog 3 Tryz.f3 Rows.fnNeckJoinedSpec Rows.fnNeckJoinedRow = true := by kernel_rfl
theorem fact29 : (fun (P : Program) (f : FuncId) (fn : Func) (s : ChangeSpec) (c : OpenClaim) => (c.kinds == (if c.domain.isEmpty then [] else fn.params.toList.map fun t => match P.underlying t with | some (.int k) => some k | _ => none))) Tryz.prog 3 Tryz.f3 Rows.fnNeckJoinedSpec Rows.fnNeckJoinedRow = true := by kernel_rfl
theorem fact30 : (fun (P : Program) (f : FuncId) (fn : Func) (s : ChangeSpec) (c : OpenClaim) => (c.pinned == c.pinnedBy)) Tryz.prog 3 Tryz.f3 Rows.fnNeckJoinedSpec Rows.fnNeckJoinedRow = true := by kernel_rfl
theorem fact31 : (fun (P : Program) (f : FuncId) (fn : Func) (s : ChangeSpec) (c : OpenClaim) => (c.veiled == (fn.params.toList ++ s.plain.varTypes P ++ fn.resultTypes.toList).any (P.veiledRec ·))) Tryz.prog 3 Tryz.f3 Rows.fnNeckJoinedSpec Rows.fnNeckJoinedRow = true := by kernel_rfl
theorem fact32 : (fun (P : Program) (f : FuncId) (fn : Func) (s : ChangeSpec) (c : OpenClaim) => c.veiledFits P fn.params.toList (fn.params.toList ++ s.plain.varTypes P ++ fn.resultTypes.toList)) Tryz.prog 3 Tryz.f3 Rows.fnNeckJoinedSpec Rows.fnNeckJoinedRow = true := by kernel_rfl
theorem closed : joinedFacts Tryz.prog 3 Tryz.f3 Rows.fnNeckJoinedSpec Rows.fnNeckJoinedRow = true := and_true (and_true (and_true (and_true (and_true (and_true (and_true (and_true (and_true (and_true (and_true (and_true (and_true (and_true (and_true (and_true (and_true (and_true (and_true (and_true (and_true (and_true (and_true (and_true (and_true (and_true (and_true (and_true (and_true (and_true (and_true (fact1) fact2) fact3) fact4) fact5) fact6) fact7) fact8) fact9) fact10) fact11) fact12) fact13) fact14) fact15) fact16) fact17) fact18) fact19) fact20) fact21) fact22) fact23) fact24) fact25) fact26) fact27) fact28) fact29) fact30) fact31) fact32
theorem tabs_of {W : World} (h : laidMetH Tryz.prog Rows.fnNeckJoinedRow.laid W) (hsh : W.ShapedOpen Tryz.prog) : Tab4 (memI W) := by
  refine ⟨?_, ?_, ?_, ?_⟩
  · have h1 := h.filter fun x => x.1.length == 28
    have e : Rows.fnNeckJoinedRow.laid.filter (fun x => x.1.length == 28) = [(((Rows.fnNeckJoinedRow.laid)[2]'(by decide)).1, Lib.tabData .u64 Lib.pow10Tab)] := by kernel_rfl
    rw [e] at h1
    have h2 : laidMet Tryz.prog [(((Rows.fnNeckJoinedRow.laid)[2]'(by decide)).1, Lib.tabData .u64 Lib.pow10Tab)] W := h1
    have h3 := Lib.tabIs_of_head (rest := []) (g := tabB) (by kernel_rfl) gTabType (show Tryz.prog.underlying 156 = some (.array 20 120) by kernel_rfl) (show Tryz.prog.underlying 120 = some (.int .u64) by kernel_rfl) cellsU cellsT h2
    unfold Lib.TabIs World.var? at h3
    rw [show Tryz.prog.globalNamed _ = some tabB from by kernel_rfl] at h3
    simp only [Option.bind_some] at h3
    split at h3
    · rename_i cs T fr hb
      cases h3
      exact memI_at hb
    · cases h3
  · obtain ⟨m, hm⟩ := laySplitM.s1_3 W hsh
    obtain ⟨_, cs, T, fr, hb, hc⟩ := cell_heap hm
    exact ⟨cs, m, memI_at hb, hc⟩
  · have h1 := h.filter fun x => x.1.length == 17
    have e : Rows.fnNeckJoinedRow.laid.filter (fun x => x.1.length == 17) = [(((Rows.fnNeckJoinedRow.laid)[5]'(by decide)).1, Rows.laid_strconv_ErrSyntax)] := by kernel_rfl
    rw [e] at h1
    have h2 : laidMet Tryz.prog [(((Rows.fnNeckJoinedRow.laid)[5]'(by decide)).1, Rows.laid_strconv_ErrSyntax)] W := h1
    exact sentinel (g := 1) (by kernel_rfl) (by kernel_rfl) h2
  · have h1 := h.filter fun x => x.1.length == 16
    have e : Rows.fnNeckJoinedRow.laid.filter (fun x => x.1.length == 16) = [(((Rows.fnNeckJoinedRow.laid)[4]'(by decide)).1, Rows.laid_strconv_ErrRange)] := by kernel_rfl
    rw [e] at h1
    have h2 : laidMet Tryz.prog [(((Rows.fnNeckJoinedRow.laid)[4]'(by decide)).1, Rows.laid_strconv_ErrRange)] W := h1
    exact sentinel (g := 2) (by kernel_rfl) (by kernel_rfl) h2
theorem contract (H : Type) (enc : TypeId × Value → H) (W : World) (base : Nat) (args : Array Value) (ds gs : List (DataW H)) (before : List MemPlace)
    (hval : ∀ (j : Nat) t v, Tryz.f3.params[j]? = some t → args[j]? = some v → Value.okWide Tryz.prog W .any base t v)
    (hW : DataW.Whole enc Tryz.prog Tryz.f3.params.toList Rows.fnNeckJoinedSpec.vars false W args.toList ds gs before) (hL : laidMetH Tryz.prog Rows.fnNeckJoinedRow.laid W) (hsh : W.ShapedOpen Tryz.prog) :
    Calls Tryz.prog 3 args W fun e W' => ∃ v, e = .returned v ∧ Rows.fnNeckJoinedSpec.post enc Tryz.prog Tryz.f3 false true false false W args v W' := by
  have hW' := hW
  obtain ⟨p, q, hA0, hV, rfl, hfz, hnd⟩ := hW
  have hA : DataW.TrodAll enc Tryz.prog W 0 (fun _ => true) true Tryz.f3.params.toList args.toList ds p := hA0
  rw [Tryz.params3] at hA hval
  obtain ⟨v0, vs0, d0, ds0, p0, q0, hargs, rfl, rfl, h0, r0⟩ := trodAll_cons hA
  obtain ⟨v1, vs1, d1, ds1, p1, q1, rfl, rfl, rfl, h1, r1⟩ := trodAll_cons r0
  obtain ⟨rfl, rfl, rfl⟩ := trodAll_nil r1
  obtain rfl : args = #[v0, v1] := by cases args; simp_all
  obtain ⟨rfl, rfl⟩ := trodVars_none hV
  clear hA0
  simp only [List.append_nil] at hW'
  have hok0 : Value.okWide Tryz.prog W .any base 22 v0 := hval 0 22 v0 rfl rfl
  obtain ⟨x0, hx0, f0⟩ := arg_one (base := 0) opens_bytes (noagg_slice (show Tryz.prog.underlying 22 = some (.slice 5) by kernel_rfl) hok0) h0
  have hok1 : Value.okWide Tryz.prog W .any base 22 v1 := hval 1 22 v1 rfl rfl
  obtain ⟨x1, hx1, f1⟩ := arg_one (base := 0) opens_bytes (noagg_slice (show Tryz.prog.underlying 22 = some (.slice 5) by kernel_rfl) hok1) h1
  have walk := (c_laws_FnNeckJoined x0 x1).2 (memI W) W #[v0, v1] (memI_models W) ⟨⟨hx0, tabs_of hL hsh⟩, ⟨⟨hx1, tabs_of hL hsh⟩, trivial⟩⟩
  refine walk.mono fun e W' he => ?_
  cases e with
  | panicked _ => exact he.elim
  | outgrown => exact he.elim
  | returned v =>
    obtain ⟨I', hst, hv⟩ := he
    have hv : v = .bool true := hv
    subst hv
    have hlt : ∀ x ∈ (p0 ++ p1), x.block < W.heap.size := fun x hx => hW'.lt x hx
    refine ⟨_, rfl, post_of_below (pa := p0 ++ p1) (pv := []) hW' (fun _ _ _ => trodAll_cons_mk (shut_bool Tryz.underlying4 _) trodAll_mk0) (fun sp hsp => ?_) (fun _ _ => rfl) (by simp) hst.below (ok_one (by kernel_rfl) rfl (okWide_bool_mk Tryz.underlying4 _))⟩
    have t0 := WideElems.Trod_stays laidOut (by kernel_rfl) (of_decide_eq_true (by kernel_rfl)) h0 (fun x hx => hst.below.same (hlt x (List.mem_append_left _ hx))) (fun x hx => hsp x (List.mem_append_left _ hx))
    have t1 := WideElems.Trod_stays laidOut (by kernel_rfl) (of_decide_eq_true (by kernel_rfl)) h1 (fun x hx => hst.below.same (hlt x (List.mem_append_right _ hx))) (fun x hx => hsp x (List.mem_append_right _ hx))
    have hall := (trodAll_cons_mk t0 (trodAll_cons_mk t1 (trodAll_mk0 (H := H) (enc := enc) (P := Tryz.prog) (w := W') (base := 0) (spare := sp) (held := true))))
    simp only [List.append_nil] at hall
    exact hall
theorem laid_met (os : Os) : laidMet Tryz.prog Rows.fnNeckJoinedRow.laid ((laidWorld os).forCall (fun _ _ => 0) ⟨#[], #[.slice none 0 0, .slice none 0 0], []⟩).memory := laidMet_of_run' 8 (by kernel_rfl) (by kernel_rfl)
theorem reads (os : Os) {H : Type} (enc : TypeId × Value → H) : ∃ places, DataW.whole enc Tryz.prog ((laidWorld os).forCall (fun _ _ => 0) ⟨#[], #[.slice none 0 0, .slice none 0 0], []⟩).memory Tryz.f3.params.toList Rows.fnNeckJoinedSpec.vars false #[Value.slice none 0 0, Value.slice none 0 0].toList 8 = some ([.nil, .nil], [], places) :=
  ⟨[], by kernel_rfl⟩
set_option maxRecDepth 100000 in
theorem lifted (os : Os) (started : os.Started) (H : Type) (enc : TypeId × Value → H) (F : Stop.Interp) :
    ReturnsInHanded {} Tryz.checked os 3 .any ((OpenSpec.ofChange Rows.fnNeckJoinedSpec).preRow enc Tryz.prog Tryz.f3 Rows.fnNeckJoinedRow.domain false Rows.fnNeckJoinedRow.laid) (((OpenSpec.ofChange Rows.fnNeckJoinedSpec).at F).post enc Tryz.prog Tryz.f3 false true false false) := by
  obtain ⟨places, hx⟩ := reads os enc
  refine returnsInHanded_of_row (C := Tryz.checked) (s := OpenSpec.ofChange Rows.fnNeckJoinedSpec) own started (by kernel_rfl) Tryz.func3
    (witness_row_at (enc := enc) (C := Tryz.checked) false (laidWorld os) #[.slice none 0 0, .slice none 0 0] rfl (by kernel_rfl) (by kernel_rfl) (by kernel_rfl)
      (OpenSpec.preRow_of_cond 8 hx (by kernel_rfl) (fun k hk => by cases hk) (by kernel_rfl) (laid_met os))) ?_
  intro W base args ds gs before hval hW _ _ _ hL hsh _
  exact contract H enc W base args ds gs before hval hW hL hsh
theorem said : Rows.FnNeckJoinedSaid :=
  OpenClaim.holds_of_cond 3 Tryz.f3 rfl rfl rfl rfl rfl rfl rfl ⟨rfl, rfl, rfl, rfl, rfl⟩ rfl rfl rfl rfl rfl (by kernel_rfl) Tryz.func3 closed
    (of_decide_eq_true (by kernel_rfl)) (by unfold Func.isWrapper; first | (rw [if_pos (by decide +kernel)]; kernel_rfl) | (rw [if_neg (by decide +kernel)]; exact ⟨rfl, rfl⟩))
    (fun os started H enc _ F => by rw [OpenClaim.pre_eq_preRow]; exact lifted os started H enc F)
theorem plain (f : FuncId) (fn : Func) (hf : Tryz.pinned.checked.prog.funcNamed Rows.fnNeckJoinedRow.func = some f) (hfn : Tryz.pinned.checked.prog.funcs[f]? = some fn) :
    true = Tryz.pinned.checked.prog.looks [] ∧ ∀ (j : Nat) t, fn.params[j]? = some t → Tryz.pinned.checked.prog.wantsStandIn t = false := by
  obtain rfl : f = 3 := Option.some.inj ((show Tryz.prog.funcNamed Rows.fnNeckJoinedRow.func = some 3 by kernel_rfl).symm.trans hf) |>.symm
  obtain rfl : fn = Tryz.f3 := (Option.some.inj (Tryz.func3.symm.trans hfn)).symm
  refine ⟨by kernel_rfl, fun j t ht => ?_⟩
  rw [Tryz.params3] at ht
  obtain rfl : t = 22 := by simpa using Array.mem_of_getElem? ht
  exact (show Tryz.prog.wantsStandIn 22 = false by kernel_rfl)
end FrFnNeckJoined
theorem fnNeckJoined_card : Rows.FnNeckJoinedCardSaid :=
  Claim7.holds_tied_plain_at .later [] _ _ _ _ FrFnNeckJoined.said (fun _ h => by cases h) (by kernel_rfl) (fun _ h => by cases h) fnNeckJoined_row_tie rfl ⟨rfl, rfl⟩ (by kernel_rfl) rfl FrFnNeckJoined.plain (by kernel_rfl)
end Go.Proofs.YtkoebplikhlapaaGreatDoor
