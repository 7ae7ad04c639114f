/- FnExactNeckSafe: for every run, the program's NeckSafe answers what the reference's answers, and the run reads as it did. Conditions: none. -/
import Derived.Test.YtlppgilifnkapaaGreatRows
import Derived.JoinedCond
import Derived.Test.YtlppgilifnkapaaGreatSafe2
import Derived.Test.YtlppgilifnkapaaGreatSafe3
import Derived.Test.YtlppgilifnkapaaGreatLawBase
import Derived.Test.YtlppgilifnkapaaGreatTurn
import Derived.Test.YtlppgilifnkapaaGreatSame
import Derived.Test.YtlppgilifnkapaaGreatOpened
set_option linter.unusedVariables false
set_option linter.unusedSimpArgs false
set_option maxRecDepth 100000
namespace Go.Proofs.YtlppgilifnkapaaGreat
open Go Go.RowKit

set_option maxHeartbeats 4000000 in
theorem c_laws_FnExactNeckSafe (x : Neck) (hd : x.Deep) :
    Fn Tryz.prog 5 [x.av] (AV.bool true) := by
 refine Fn.intro 27 Tryz.func5 rfl Tryz.ntmps5 rfl (by kernel_rfl) (fun W I a hs => ?_)
 refine wp_seq <| St.region <| hs.o (ok_boxP .tt) fun hs => hs.sc fun hs => wpList_nil <| then_n <| wp_seq <| St.region <| hs.sc fun hs => wpList_nil <| then_n <| wp_seq <| St.region ?_
 refine hs.o ((by first | exact ok_loadA ty27 .tt rfl | exact ok_loadS ty27 .tt rfl)) fun hs => ?_
 refine hs.m fun hs => ?_
 refine hs.o (ok_call (c_laws_szNeck _ _ (by omega) (by omega)) (args_cons (.t rfl) (args_cons (.t rfl) args_nil))) fun hs => ?_
 refine hs.s fun hs => wpList_nil <| then_n <| wp_seq <| wp_seq <| St.region <| hs.m fun hs => hs.o (ok_lss .tt .c) fun hs => wpList_nil <| then_n ?_
 refine hs.cond .tt (fun hb1 => ?_) (fun hb1 => ?_)
 ·try simp only [B] at hb1
  refine wp_seq <| St.region <| hs.sc fun hs => wpList_nil <| then_n <| wp_ret <| then_r <| hs.ret rfl (.cons (.t rfl) ResL.nil) ?_
  rfl
 ·try simp only [B] at hb1
  refine wp_skip <| then_n <| wp_seq <| St.region ?_
  refine hs.o ((by first | exact ok_loadA ty27 .tt rfl | exact ok_loadS ty27 .tt rfl)) fun hs => ?_
  refine hs.o (ok_call (c_laws_toNeck x (lefts_neck hb1)) (args_cons .tt args_nil)) fun hs => hs.o (ok_call (c_spec_NeckSafe x (wCalls_le (lefts_neck hb1)).2) (args_cons .tt args_nil)) fun hs => hs.s fun hs => wpList_nil <| then_n <| wp_seq <| St.region ?_
  refine hs.o ((by first | exact ok_loadA ty27 .tt rfl | exact ok_loadS ty27 .tt rfl)) fun hs => ?_
  refine hs.o (ok_call (c_laws_toNeck x (lefts_neck hb1)) (args_cons .tt args_nil)) fun hs => hs.alloc rfl ty35 zc35 fun b5 I a w hs => ?_
  refine hs.storeB 0 ty35 .tt .tt rfl (by first | rfl | assumption) rfl fun a w hs => ?_
  obtain ⟨I, hs, hf⟩ := hs.freezeBox 0 rfl
  have hs := hs.upd (t := 5) rfl hf; clear hf
  refine wpList_nil <| then_n <| wp_seq <| St.region ?_
  refine hs.o ((by first | exact ok_loadA ty35 .tt rfl | exact ok_loadS ty35 .tt rfl)) fun hs => ?_
  refine hs.o (ok_call (c_impl_NeckSafe x (fit_of_deep hd) (wCalls_le (lefts_neck hb1)).1) (args_cons .tt args_nil)) fun hs => hs.s fun hs => wpList_nil <| then_n <| wp_seq <| wp_seq <| St.region <| hs.m fun hs => hs.m fun hs => hs.o (ok_neb .tt .tt un4) fun hs => wpList_nil <| then_n ?_
  refine hs.cond .tt (fun hb2 => ?_) (fun hb2 => ?_)
  ·exfalso; simp at hb2
   skip
  ·skip
   refine wp_skip <| then_n <| wp_seq <| wp_seq <| hs.dk ?_
   refine .o ((by first | exact ok_loadA ty35 .tt rfl | exact ok_loadS ty35 .tt rfl)) ?_
   refine .o ((by first | exact ok_loadA ty27 .tt rfl | exact ok_loadS ty27 .tt rfl)) ?_
   refine .o (ok_call (c_laws_toNeck x (lefts_neck hb1)) (args_cons .tt args_nil)) <| .o (ok_call (c_laws_eqNeck x) (args_cons .tt (args_cons .tt args_nil))) <| .o (ok_not .tt) <| RunK.nil ?_
   intro I a w hs
   refine then_n ?_
   refine hs.cond .tt (fun hb3 => ?_) (fun hb3 => ?_)
   ·exfalso; simp at hb3
    skip
   ·skip
    refine wp_skip <| then_n <| wp_seq <| St.region <| hs.sc fun hs => wpList_nil <| then_n <| wp_ret <| hs.ret rfl (.cons (.t rfl) ResL.nil) ?_
    rfl

open Go.ChangeShapes Go.WideShapes Go.ChangeAt
namespace FrFnExactNeckSafe
theorem and_true {x y : Bool} (h : x = true) (k : y = true) : (x && y) = true := by rw [h, k]; rfl
theorem fact1 : (fun (P : Program) (f : FuncId) (fn : Func) (s : ChangeSpec) (c : OpenClaim) => c.wf (OpenSpec.ofChange s)) Tryz.prog 5 Tryz.f5 Rows.fnExactNeckSafeSpec Rows.fnExactNeckSafeRow = true := by kernel_rfl
theorem fact2 : (fun (P : Program) (f : FuncId) (fn : Func) (s : ChangeSpec) (c : OpenClaim) => laidOutB P) Tryz.prog 5 Tryz.f5 Rows.fnExactNeckSafeSpec Rows.fnExactNeckSafeRow = true := by kernel_rfl
theorem fact3 : (fun (P : Program) (f : FuncId) (fn : Func) (s : ChangeSpec) (c : OpenClaim) => mapsRowed P) Tryz.prog 5 Tryz.f5 Rows.fnExactNeckSafeSpec Rows.fnExactNeckSafeRow = true := by kernel_rfl
theorem fact4 : (fun (P : Program) (f : FuncId) (fn : Func) (s : ChangeSpec) (c : OpenClaim) => fn.params.all (P.readableRec ·)) Tryz.prog 5 Tryz.f5 Rows.fnExactNeckSafeSpec Rows.fnExactNeckSafeRow = true := by kernel_rfl
theorem fact5 : (fun (P : Program) (f : FuncId) (fn : Func) (s : ChangeSpec) (c : OpenClaim) => namedTie P c.named s.vars) Tryz.prog 5 Tryz.f5 Rows.fnExactNeckSafeSpec Rows.fnExactNeckSafeRow = true := by kernel_rfl
theorem fact6 : (fun (P : Program) (f : FuncId) (fn : Func) (s : ChangeSpec) (c : OpenClaim) => (c.stops == [])) Tryz.prog 5 Tryz.f5 Rows.fnExactNeckSafeSpec Rows.fnExactNeckSafeRow = true := by kernel_rfl
theorem fact7 : (fun (P : Program) (f : FuncId) (fn : Func) (s : ChangeSpec) (c : OpenClaim) => (P.stops == [])) Tryz.prog 5 Tryz.f5 Rows.fnExactNeckSafeSpec Rows.fnExactNeckSafeRow = true := by kernel_rfl
theorem fact8 : (fun (P : Program) (f : FuncId) (fn : Func) (s : ChangeSpec) (c : OpenClaim) => (c.knobs == [])) Tryz.prog 5 Tryz.f5 Rows.fnExactNeckSafeSpec Rows.fnExactNeckSafeRow = true := by kernel_rfl
theorem fact9 : (fun (P : Program) (f : FuncId) (fn : Func) (s : ChangeSpec) (c : OpenClaim) => (P.stopKnobs == [])) Tryz.prog 5 Tryz.f5 Rows.fnExactNeckSafeSpec Rows.fnExactNeckSafeRow = true := by kernel_rfl
theorem fact10 : (fun (P : Program) (f : FuncId) (fn : Func) (s : ChangeSpec) (c : OpenClaim) => (c.inPlace == P.inPlace f)) Tryz.prog 5 Tryz.f5 Rows.fnExactNeckSafeSpec Rows.fnExactNeckSafeRow = true := by kernel_rfl
theorem fact11 : (fun (P : Program) (f : FuncId) (fn : Func) (s : ChangeSpec) (c : OpenClaim) => (c.unfollowed == P.unfollowed f)) Tryz.prog 5 Tryz.f5 Rows.fnExactNeckSafeSpec Rows.fnExactNeckSafeRow = true := by kernel_rfl
theorem fact12 : (fun (P : Program) (f : FuncId) (fn : Func) (s : ChangeSpec) (c : OpenClaim) => (c.recurses == P.recurses f)) Tryz.prog 5 Tryz.f5 Rows.fnExactNeckSafeSpec Rows.fnExactNeckSafeRow = true := by kernel_rfl
theorem fact13 : (fun (P : Program) (f : FuncId) (fn : Func) (s : ChangeSpec) (c : OpenClaim) => (c.named == P.varsNamed f)) Tryz.prog 5 Tryz.f5 Rows.fnExactNeckSafeSpec Rows.fnExactNeckSafeRow = true := by kernel_rfl
theorem fact14 : (fun (P : Program) (f : FuncId) (fn : Func) (s : ChangeSpec) (c : OpenClaim) => (c.maps == (fn.params.toList ++ s.plain.varTypes P).any (P.mapsRec ·))) Tryz.prog 5 Tryz.f5 Rows.fnExactNeckSafeSpec Rows.fnExactNeckSafeRow = true := by kernel_rfl
theorem fact15 : (fun (P : Program) (f : FuncId) (fn : Func) (s : ChangeSpec) (c : OpenClaim) => (c.ifaces == (fn.params.toList ++ s.plain.varTypes P).any (P.ifacesRec ·))) Tryz.prog 5 Tryz.f5 Rows.fnExactNeckSafeSpec Rows.fnExactNeckSafeRow = true := by kernel_rfl
theorem fact16 : (fun (P : Program) (f : FuncId) (fn : Func) (s : ChangeSpec) (c : OpenClaim) => (c.mapsOut == P.mapsAmong fn.resultTypes.toList)) Tryz.prog 5 Tryz.f5 Rows.fnExactNeckSafeSpec Rows.fnExactNeckSafeRow = true := by kernel_rfl
theorem fact17 : (fun (P : Program) (f : FuncId) (fn : Func) (s : ChangeSpec) (c : OpenClaim) => (c.loops == (fn.params.toList ++ s.plain.varTypes P).any (P.loopsFrom ·))) Tryz.prog 5 Tryz.f5 Rows.fnExactNeckSafeSpec Rows.fnExactNeckSafeRow = true := by kernel_rfl
theorem fact18 : (fun (P : Program) (f : FuncId) (fn : Func) (s : ChangeSpec) (c : OpenClaim) => (c.wideKeys == (fn.params.toList ++ s.plain.varTypes P ++ fn.resultTypes.toList).any (P.wideKeysFrom ·))) Tryz.prog 5 Tryz.f5 Rows.fnExactNeckSafeSpec Rows.fnExactNeckSafeRow = true := by kernel_rfl
theorem fact19 : (fun (P : Program) (f : FuncId) (fn : Func) (s : ChangeSpec) (c : OpenClaim) => s.vars.all (P.varReadable ·)) Tryz.prog 5 Tryz.f5 Rows.fnExactNeckSafeSpec Rows.fnExactNeckSafeRow = true := by kernel_rfl
theorem fact20 : (fun (P : Program) (f : FuncId) (fn : Func) (s : ChangeSpec) (c : OpenClaim) => fn.resultTypes.all (fun t => P.readableRec t && decide (t < P.types.size))) Tryz.prog 5 Tryz.f5 Rows.fnExactNeckSafeSpec Rows.fnExactNeckSafeRow = true := by kernel_rfl
theorem fact21 : (fun (P : Program) (f : FuncId) (fn : Func) (s : ChangeSpec) (c : OpenClaim) => (c.ifacesOut == fn.resultTypes.toList.any (P.ifacesRec ·))) Tryz.prog 5 Tryz.f5 Rows.fnExactNeckSafeSpec Rows.fnExactNeckSafeRow = true := by kernel_rfl
theorem fact22 : (fun (P : Program) (f : FuncId) (fn : Func) (s : ChangeSpec) (c : OpenClaim) => (c.loopsOut == fn.resultTypes.toList.any (P.loopsFrom ·))) Tryz.prog 5 Tryz.f5 Rows.fnExactNeckSafeSpec Rows.fnExactNeckSafeRow = true := by kernel_rfl
theorem fact23 : (fun (P : Program) (f : FuncId) (fn : Func) (s : ChangeSpec) (c : OpenClaim) => (c.plainKeys == P.plainKeys)) Tryz.prog 5 Tryz.f5 Rows.fnExactNeckSafeSpec Rows.fnExactNeckSafeRow = true := by kernel_rfl
theorem fact24 : (fun (P : Program) (f : FuncId) (fn : Func) (s : ChangeSpec) (c : OpenClaim) => c.shortTexts.isNone) Tryz.prog 5 Tryz.f5 Rows.fnExactNeckSafeSpec Rows.fnExactNeckSafeRow = true := by kernel_rfl
theorem fact25 : (fun (P : Program) (f : FuncId) (fn : Func) (s : ChangeSpec) (c : OpenClaim) => P.stopsHeard) Tryz.prog 5 Tryz.f5 Rows.fnExactNeckSafeSpec Rows.fnExactNeckSafeRow = true := by kernel_rfl
theorem fact26 : (fun (P : Program) (f : FuncId) (fn : Func) (s : ChangeSpec) (c : OpenClaim) => P.mayEnter) Tryz.prog 5 Tryz.f5 Rows.fnExactNeckSafeSpec Rows.fnExactNeckSafeRow = true := by kernel_rfl
theorem fact27 : (fun (P : Program) (f : FuncId) (fn : Func) (s : ChangeSpec) (c : OpenClaim) => (c.lifted == P.liftsFinal)) Tryz.prog 5 Tryz.f5 Rows.fnExactNeckSafeSpec Rows.fnExactNeckSafeRow = true := by kernel_rfl
theorem fact28 : (fun (P : Program) (f : FuncId) (fn : Func) (s : ChangeSpec) (c : OpenClaim) => (P.make == some c.make)) Tryz.prog 5 Tryz.f5 Rows.fnExactNeckSafeSpec Rows.fnExactNeckSafeRow = true := by kernel_rfl
theorem fact29 : (fun (P : Program) (f : FuncId) (fn : Func) (s : ChangeSpec) (c : OpenClaim) => (c.kinds == (if c.domain.isEmpty then [] else fn.params.toList.map fun t => match P.underlying t with | some (.int k) => some k | _ => none))) Tryz.prog 5 Tryz.f5 Rows.fnExactNeckSafeSpec Rows.fnExactNeckSafeRow = true := by kernel_rfl
theorem fact30 : (fun (P : Program) (f : FuncId) (fn : Func) (s : ChangeSpec) (c : OpenClaim) => (c.pinned == c.pinnedBy)) Tryz.prog 5 Tryz.f5 Rows.fnExactNeckSafeSpec Rows.fnExactNeckSafeRow = true := by kernel_rfl
theorem fact31 : (fun (P : Program) (f : FuncId) (fn : Func) (s : ChangeSpec) (c : OpenClaim) => (c.veiled == (fn.params.toList ++ s.plain.varTypes P ++ fn.resultTypes.toList).any (P.veiledRec ·))) Tryz.prog 5 Tryz.f5 Rows.fnExactNeckSafeSpec Rows.fnExactNeckSafeRow = true := by kernel_rfl
theorem fact32 : (fun (P : Program) (f : FuncId) (fn : Func) (s : ChangeSpec) (c : OpenClaim) => c.veiledFits P fn.params.toList (fn.params.toList ++ s.plain.varTypes P ++ fn.resultTypes.toList)) Tryz.prog 5 Tryz.f5 Rows.fnExactNeckSafeSpec Rows.fnExactNeckSafeRow = true := by kernel_rfl
theorem closed : joinedFacts Tryz.prog 5 Tryz.f5 Rows.fnExactNeckSafeSpec Rows.fnExactNeckSafeRow = true := and_true (and_true (and_true (and_true (and_true (and_true (and_true (and_true (and_true (and_true (and_true (and_true (and_true (and_true (and_true (and_true (and_true (and_true (and_true (and_true (and_true (and_true (and_true (and_true (and_true (and_true (and_true (and_true (and_true (and_true (and_true (fact1) fact2) fact3) fact4) fact5) fact6) fact7) fact8) fact9) fact10) fact11) fact12) fact13) fact14) fact15) fact16) fact17) fact18) fact19) fact20) fact21) fact22) fact23) fact24) fact25) fact26) fact27) fact28) fact29) fact30) fact31) fact32
theorem own : ownKnob Tryz.prog.godebug = none := by kernel_rfl
theorem laidOut : laidOutB Tryz.prog = true := by kernel_rfl
theorem contract (H : Type) (enc : TypeId × Value → H) (W : World) (base : Nat) (args : Array Value) (ds gs : List (DataW H)) (before : List MemPlace)
    (hval : ∀ (j : Nat) t v, Tryz.f5.params[j]? = some t → args[j]? = some v → Value.okWide Tryz.prog W .any base t v)
    (hW : DataW.Whole enc Tryz.prog Tryz.f5.params.toList Rows.fnExactNeckSafeSpec.vars false W args.toList ds gs before) :
    Calls Tryz.prog 5 args W fun e W' => ∃ v, e = .returned v ∧ Rows.fnExactNeckSafeSpec.post enc Tryz.prog Tryz.f5 false true false false W args v W' := by
  have hW' := hW
  obtain ⟨p, q, hA0, hV, rfl, hfz, hnd⟩ := hW
  have hA : DataW.TrodAll enc Tryz.prog W 0 (fun _ => true) true Tryz.f5.params.toList args.toList ds p := hA0
  rw [Tryz.params5] at hA hval
  obtain ⟨v0, vs0, d0, ds0, p0, q0, hargs, rfl, rfl, h0, r0⟩ := trodAll_cons hA
  obtain ⟨rfl, rfl, rfl⟩ := trodAll_nil r0
  obtain rfl : args = #[v0] := by cases args; simp_all
  obtain ⟨rfl, rfl⟩ := trodVars_none hV
  clear hA0
  simp only [List.append_nil] at hW'
  have hok0 : Value.okWide Tryz.prog W .any base 27 v0 := hval 0 27 v0 rfl rfl
  obtain ⟨x0, hx0, f0⟩ := arg_agg (show Tryz.prog.underlying 27 = some (.struct (Tryz.prog.fieldsOf 27)) by kernel_rfl) opens_t27 hok0 h0
  have walk := (c_laws_FnExactNeckSafe x0 f0).2 (memI W) W #[v0] (memI_models W) ⟨hx0, trivial⟩
  refine walk.mono fun e W' he => ?_
  cases e with
  | panicked _ => exact he.elim
  | outgrown => exact he.elim
  | returned v =>
    obtain ⟨I', hst, hv⟩ := he
    have hv : v = .bool true := hv
    subst hv
    have hlt : ∀ x ∈ (p0), x.block < W.heap.size := fun x hx => hW'.lt x hx
    refine ⟨_, rfl, post_of_below (pa := p0) (pv := []) hW' (fun _ _ _ => trodAll_cons_mk (shut_bool Tryz.underlying4 _) trodAll_mk0) (fun sp hsp => ?_) (fun _ _ => rfl) (by simp) hst.below (ok_one (by kernel_rfl) rfl (okWide_bool_mk Tryz.underlying4 _))⟩
    have t0 := WideElems.Trod_stays laidOut (by kernel_rfl) (of_decide_eq_true (by kernel_rfl)) h0 (fun x hx => hst.below.same (hlt x hx)) hsp
    have hall := (trodAll_cons_mk t0 (trodAll_mk0 (H := H) (enc := enc) (P := Tryz.prog) (w := W') (base := 0) (spare := sp) (held := true)))
    simp only [List.append_nil] at hall
    exact hall
noncomputable def laidWorld (os : Os) : World := World.holding Tryz.prog os ⟨#[], #[], []⟩
theorem laid_met (os : Os) : laidMet Tryz.prog Rows.fnExactNeckSafeRow.laid ((laidWorld os).forCall (fun _ _ => 0) ⟨#[], #[.agg #[.int .i64 0, .slice none 0 0, .slice none 0 0, .slice none 0 0, .slice none 0 0]], []⟩).memory := laidMet_of_run' 8 (by kernel_rfl) (by kernel_rfl)
theorem reads (os : Os) {H : Type} (enc : TypeId × Value → H) : ∃ places, DataW.whole enc Tryz.prog ((laidWorld os).forCall (fun _ _ => 0) ⟨#[], #[.agg #[.int .i64 0, .slice none 0 0, .slice none 0 0, .slice none 0 0, .slice none 0 0]], []⟩).memory Tryz.f5.params.toList Rows.fnExactNeckSafeSpec.vars false #[Value.agg #[.int .i64 0, .slice none 0 0, .slice none 0 0, .slice none 0 0, .slice none 0 0]].toList 8 = some ([.agg [.lit (.int .i64 0), .nil, .nil, .nil, .nil]], [], places) :=
  ⟨[], by kernel_rfl⟩
set_option maxRecDepth 100000 in
theorem lifted (os : Os) (started : os.Started) (H : Type) (enc : TypeId × Value → H) (F : Stop.Interp) :
    ReturnsInHanded {} Tryz.checked os 5 .any ((OpenSpec.ofChange Rows.fnExactNeckSafeSpec).preRow enc Tryz.prog Tryz.f5 Rows.fnExactNeckSafeRow.domain false Rows.fnExactNeckSafeRow.laid) (((OpenSpec.ofChange Rows.fnExactNeckSafeSpec).at F).post enc Tryz.prog Tryz.f5 false true false false) := by
  obtain ⟨places, hx⟩ := reads os enc
  refine returnsInHanded_of_row (C := Tryz.checked) (s := OpenSpec.ofChange Rows.fnExactNeckSafeSpec) own started (by kernel_rfl) Tryz.func5
    (witness_row_at (enc := enc) (C := Tryz.checked) false (laidWorld os) #[.agg #[.int .i64 0, .slice none 0 0, .slice none 0 0, .slice none 0 0, .slice none 0 0]] rfl (by kernel_rfl) (by kernel_rfl) (by kernel_rfl)
      (OpenSpec.preRow_of_cond 8 hx (by kernel_rfl) (fun k hk => by cases hk) (by kernel_rfl) (laid_met os))) ?_
  intro W base args ds gs before hval hW _ _ _ hL _ _
  exact contract H enc W base args ds gs before hval hW
end FrFnExactNeckSafe
/-- The statement. -/
theorem fnExactNeckSafe_holds : Rows.FnExactNeckSafeSaid :=
  OpenClaim.holds_of_cond 5 Tryz.f5 rfl rfl rfl rfl rfl rfl rfl ⟨rfl, rfl, rfl, rfl, rfl⟩ rfl rfl rfl rfl rfl (by kernel_rfl) Tryz.func5 FrFnExactNeckSafe.closed
    (of_decide_eq_true (by kernel_rfl)) (by unfold Func.isWrapper; first | (rw [if_pos (by decide +kernel)]; kernel_rfl) | (rw [if_neg (by decide +kernel)]; exact ⟨rfl, rfl⟩))
    (fun os started H enc _ F => by rw [OpenClaim.pre_eq_preRow]; exact FrFnExactNeckSafe.lifted os started H enc F)
end Go.Proofs.YtlppgilifnkapaaGreat
