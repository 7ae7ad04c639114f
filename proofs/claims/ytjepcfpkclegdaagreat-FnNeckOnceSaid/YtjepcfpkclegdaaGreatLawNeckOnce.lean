/- FnNeckOnce: a put is done once, however often it comes, and wherever. Conditions: none. -/
import Derived.Test.YtjepcfpkclegdaaGreatRows
import Derived.JoinedCond
import Derived.Test.YtjepcfpkclegdaaGreatR00
set_option linter.unusedVariables false
set_option linter.unusedSimpArgs false
set_option maxRecDepth 100000
set_option maxHeartbeats 4000000
namespace Go.Proofs.YtjepcfpkclegdaaGreat
open Go Go.RowKit
attribute [local irreducible] wpList Code.wp Ok
open Go.ChangeShapes Go.WideShapes Go.ChangeAt
namespace FrFnNeckOnce
theorem and_true {x y:Bool} (h:x=true) (k:y=true):(x&&y)=true:=by rw[h,k];rfl
theorem gW:(λ(P:Program) (f:FuncId) (fn:Func) (s:ChangeSpec) (c:OpenClaim)=>c.wf (OpenSpec.ofChange s)) Tryz.prog 16 Tryz.f16 Rows.fnNeckOnceSpec Rows.fnNeckOnceRow=true:=by kernel_rfl
theorem gX:(λ(P:Program) (f:FuncId) (fn:Func) (s:ChangeSpec) (c:OpenClaim)=>laidOutB P) Tryz.prog 16 Tryz.f16 Rows.fnNeckOnceSpec Rows.fnNeckOnceRow=true:=by kernel_rfl
theorem gY:(λ(P:Program) (f:FuncId) (fn:Func) (s:ChangeSpec) (c:OpenClaim)=>mapsRowed P) Tryz.prog 16 Tryz.f16 Rows.fnNeckOnceSpec Rows.fnNeckOnceRow=true:=by kernel_rfl
theorem gZ:(λ(P:Program) (f:FuncId) (fn:Func) (s:ChangeSpec) (c:OpenClaim)=>fn.params.all (P.readableRec ·)) Tryz.prog 16 Tryz.f16 Rows.fnNeckOnceSpec Rows.fnNeckOnceRow=true:=by kernel_rfl
theorem g0:(λ(P:Program) (f:FuncId) (fn:Func) (s:ChangeSpec) (c:OpenClaim)=>namedTie P c.named s.vars) Tryz.prog 16 Tryz.f16 Rows.fnNeckOnceSpec Rows.fnNeckOnceRow=true:=by kernel_rfl
theorem g7:(λ(P:Program) (f:FuncId) (fn:Func) (s:ChangeSpec) (c:OpenClaim)=>(c.stops==[])) Tryz.prog 16 Tryz.f16 Rows.fnNeckOnceSpec Rows.fnNeckOnceRow=true:=by kernel_rfl
theorem g8:(λ(P:Program) (f:FuncId) (fn:Func) (s:ChangeSpec) (c:OpenClaim)=>(P.stops==[])) Tryz.prog 16 Tryz.f16 Rows.fnNeckOnceSpec Rows.fnNeckOnceRow=true:=by kernel_rfl
theorem g9:(λ(P:Program) (f:FuncId) (fn:Func) (s:ChangeSpec) (c:OpenClaim)=>(c.knobs==[])) Tryz.prog 16 Tryz.f16 Rows.fnNeckOnceSpec Rows.fnNeckOnceRow=true:=by kernel_rfl
theorem hC:(λ(P:Program) (f:FuncId) (fn:Func) (s:ChangeSpec) (c:OpenClaim)=>(P.stopKnobs==[])) Tryz.prog 16 Tryz.f16 Rows.fnNeckOnceSpec Rows.fnNeckOnceRow=true:=by kernel_rfl
theorem hO:(λ(P:Program) (f:FuncId) (fn:Func) (s:ChangeSpec) (c:OpenClaim)=>(c.inPlace==P.inPlace f)) Tryz.prog 16 Tryz.f16 Rows.fnNeckOnceSpec Rows.fnNeckOnceRow=true:=by kernel_rfl
theorem hP:(λ(P:Program) (f:FuncId) (fn:Func) (s:ChangeSpec) (c:OpenClaim)=>(c.unfollowed==P.unfollowed f)) Tryz.prog 16 Tryz.f16 Rows.fnNeckOnceSpec Rows.fnNeckOnceRow=true:=by kernel_rfl
theorem hZ:(λ(P:Program) (f:FuncId) (fn:Func) (s:ChangeSpec) (c:OpenClaim)=>(c.recurses==P.recurses f)) Tryz.prog 16 Tryz.f16 Rows.fnNeckOnceSpec Rows.fnNeckOnceRow=true:=by kernel_rfl
theorem ia:(λ(P:Program) (f:FuncId) (fn:Func) (s:ChangeSpec) (c:OpenClaim)=>(c.named==P.varsNamed f)) Tryz.prog 16 Tryz.f16 Rows.fnNeckOnceSpec Rows.fnNeckOnceRow=true:=by kernel_rfl
theorem ib:(λ(P:Program) (f:FuncId) (fn:Func) (s:ChangeSpec) (c:OpenClaim)=>(c.maps==(fn.params.toList++s.plain.varTypes P).any (P.mapsRec ·))) Tryz.prog 16 Tryz.f16 Rows.fnNeckOnceSpec Rows.fnNeckOnceRow=true:=by kernel_rfl
theorem ic:(λ(P:Program) (f:FuncId) (fn:Func) (s:ChangeSpec) (c:OpenClaim)=>(c.ifaces==(fn.params.toList++s.plain.varTypes P).any (P.ifacesRec ·))) Tryz.prog 16 Tryz.f16 Rows.fnNeckOnceSpec Rows.fnNeckOnceRow=true:=by kernel_rfl
theorem ie:(λ(P:Program) (f:FuncId) (fn:Func) (s:ChangeSpec) (c:OpenClaim)=>(c.mapsOut==P.mapsAmong fn.resultTypes.toList)) Tryz.prog 16 Tryz.f16 Rows.fnNeckOnceSpec Rows.fnNeckOnceRow=true:=by kernel_rfl
theorem ig:(λ(P:Program) (f:FuncId) (fn:Func) (s:ChangeSpec) (c:OpenClaim)=>(c.loops==(fn.params.toList++s.plain.varTypes P).any (P.loopsFrom ·))) Tryz.prog 16 Tryz.f16 Rows.fnNeckOnceSpec Rows.fnNeckOnceRow=true:=by kernel_rfl
theorem ij:(λ(P:Program) (f:FuncId) (fn:Func) (s:ChangeSpec) (c:OpenClaim)=>(c.wideKeys==(fn.params.toList++s.plain.varTypes P++fn.resultTypes.toList).any (P.wideKeysFrom ·))) Tryz.prog 16 Tryz.f16 Rows.fnNeckOnceSpec Rows.fnNeckOnceRow=true:=by kernel_rfl
theorem ik:(λ(P:Program) (f:FuncId) (fn:Func) (s:ChangeSpec) (c:OpenClaim)=>s.vars.all (P.varReadable ·)) Tryz.prog 16 Tryz.f16 Rows.fnNeckOnceSpec Rows.fnNeckOnceRow=true:=by kernel_rfl
theorem il:(λ(P:Program) (f:FuncId) (fn:Func) (s:ChangeSpec) (c:OpenClaim)=>fn.resultTypes.all (λt=>P.readableRec t&&decide (t<P.types.size))) Tryz.prog 16 Tryz.f16 Rows.fnNeckOnceSpec Rows.fnNeckOnceRow=true:=by kernel_rfl
theorem im:(λ(P:Program) (f:FuncId) (fn:Func) (s:ChangeSpec) (c:OpenClaim)=>(c.ifacesOut==fn.resultTypes.toList.any (P.ifacesRec ·))) Tryz.prog 16 Tryz.f16 Rows.fnNeckOnceSpec Rows.fnNeckOnceRow=true:=by kernel_rfl
theorem iq:(λ(P:Program) (f:FuncId) (fn:Func) (s:ChangeSpec) (c:OpenClaim)=>(c.loopsOut==fn.resultTypes.toList.any (P.loopsFrom ·))) Tryz.prog 16 Tryz.f16 Rows.fnNeckOnceSpec Rows.fnNeckOnceRow=true:=by kernel_rfl
theorem ir:(λ(P:Program) (f:FuncId) (fn:Func) (s:ChangeSpec) (c:OpenClaim)=>(c.plainKeys==P.plainKeys)) Tryz.prog 16 Tryz.f16 Rows.fnNeckOnceSpec Rows.fnNeckOnceRow=true:=by kernel_rfl
theorem iu:(λ(P:Program) (f:FuncId) (fn:Func) (s:ChangeSpec) (c:OpenClaim)=>c.shortTexts.isNone) Tryz.prog 16 Tryz.f16 Rows.fnNeckOnceSpec Rows.fnNeckOnceRow=true:=by kernel_rfl
theorem iv:(λ(P:Program) (f:FuncId) (fn:Func) (s:ChangeSpec) (c:OpenClaim)=>P.stopsHeard) Tryz.prog 16 Tryz.f16 Rows.fnNeckOnceSpec Rows.fnNeckOnceRow=true:=by kernel_rfl
theorem iw:(λ(P:Program) (f:FuncId) (fn:Func) (s:ChangeSpec) (c:OpenClaim)=>P.mayEnter) Tryz.prog 16 Tryz.f16 Rows.fnNeckOnceSpec Rows.fnNeckOnceRow=true:=by kernel_rfl
theorem ix:(λ(P:Program) (f:FuncId) (fn:Func) (s:ChangeSpec) (c:OpenClaim)=>(c.lifted==P.liftsFinal)) Tryz.prog 16 Tryz.f16 Rows.fnNeckOnceSpec Rows.fnNeckOnceRow=true:=by kernel_rfl
theorem iy:(λ(P:Program) (f:FuncId) (fn:Func) (s:ChangeSpec) (c:OpenClaim)=>(P.make==some c.make)) Tryz.prog 16 Tryz.f16 Rows.fnNeckOnceSpec Rows.fnNeckOnceRow=true:=by kernel_rfl
theorem iz:(λ(P:Program) (f:FuncId) (fn:Func) (s:ChangeSpec) (c:OpenClaim)=>(c.kinds==(if c.domain.isEmpty then[] else fn.params.toList.map λt=>match P.underlying t with|some (.int k)=>some k|_=>none))) Tryz.prog 16 Tryz.f16 Rows.fnNeckOnceSpec Rows.fnNeckOnceRow=true:=by kernel_rfl
theorem iA:(λ(P:Program) (f:FuncId) (fn:Func) (s:ChangeSpec) (c:OpenClaim)=>(c.pinned==c.pinnedBy)) Tryz.prog 16 Tryz.f16 Rows.fnNeckOnceSpec Rows.fnNeckOnceRow=true:=by kernel_rfl
theorem iB:(λ(P:Program) (f:FuncId) (fn:Func) (s:ChangeSpec) (c:OpenClaim)=>(c.veiled==(fn.params.toList++s.plain.varTypes P++fn.resultTypes.toList).any (P.veiledRec ·))) Tryz.prog 16 Tryz.f16 Rows.fnNeckOnceSpec Rows.fnNeckOnceRow=true:=by kernel_rfl
theorem iC:(λ(P:Program) (f:FuncId) (fn:Func) (s:ChangeSpec) (c:OpenClaim)=>c.veiledFits P fn.params.toList (fn.params.toList++s.plain.varTypes P++fn.resultTypes.toList)) Tryz.prog 16 Tryz.f16 Rows.fnNeckOnceSpec Rows.fnNeckOnceRow=true:=by kernel_rfl
theorem closed:joinedFacts Tryz.prog 16 Tryz.f16 Rows.fnNeckOnceSpec Rows.fnNeckOnceRow=true:=and_true (and_true (and_true (and_true (and_true (and_true (and_true (and_true (and_true (and_true (and_true (and_true (and_true (and_true (and_true (and_true (and_true (and_true (and_true (and_true (and_true (and_true (and_true (and_true (and_true (and_true (and_true (and_true (and_true (and_true (and_true (gW) gX) gY) gZ) g0) g7) g8) g9) hC) hO) hP) hZ) ia) ib) ic) ie) ig) ij) ik) il) im) iq) ir) iu) iv) iw) ix) iy) iz) iA) iB) iC
theorem own:ownKnob Tryz.prog.godebug=none:=by kernel_rfl
theorem laidOut:laidOutB Tryz.prog=true:=by kernel_rfl
theorem iD (H:Type) (enc:TypeId×Value->H) (W:World) (base:Nat) (args:Array Value) (ds gs:List (DataW H)) (before:List MemPlace)
 (cr:∀(j:Nat) t v,Tryz.f16.params[j]?=some t->args[j]?=some v->Value.okWide Tryz.prog W .any base t v)
 (hW:DataW.Whole enc Tryz.prog Tryz.f16.params.toList Rows.fnNeckOnceSpec.vars false W args.toList ds gs before):
 Calls Tryz.prog 16 args W λe W'=>∃v,e=.returned v/\Rows.fnNeckOnceSpec.post enc Tryz.prog Tryz.f16 false true false false W args v W':=by
 have dh:=hW
 obtain⟨p,q,eh,hV,rfl,nV,cy⟩:=hW
 have hA:DataW.TrodAll enc Tryz.prog W 0 (λ_=>true) true Tryz.f16.params.toList args.toList ds p:=eh
 rw[Tryz.params16] at hA cr
 obtain⟨v0,nW,d0,nX,p0,q0,fB,rfl,rfl,h0,r0⟩:=trodAll_cons hA
 obtain⟨rfl,rfl,rfl⟩:=trodAll_nil r0
 obtain rfl:args=#[v0]:=by cases args;simp_all
 obtain⟨rfl,rfl⟩:=trodVars_none hV
 clear eh
 simp only[List.append_nil] at dh
 have fY:Value.okWide Tryz.prog W .any base 22 v0:=cr 0 22 v0 rfl rfl
 obtain⟨x0,iE,f0⟩:=ml (base:=0) mn (mo (show Tryz.prog.underlying 22=some (.slice 5) by kernel_rfl) fY) h0
 have walk:=(cu x0).2 (jQ W) W #[v0] (ng W) ⟨iE,trivial⟩
 refine walk.mono λe W' he=>?_
 cases e with
 |panicked _=>exact he.elim
 |outgrown=>exact he.elim
 |returned v=>
  obtain⟨I',bc,hv⟩:=he
  have hv:v=.bool true:=hv
  subst hv
  have bw:∀x∈(p0),x.block<W.heap.size:=λx hx=>dh.lt x hx
  refine⟨_,rfl,nh (pa:=p0) (pv:=[]) dh (λ_ _ _=>trodAll_cons_mk (shut_bool Tryz.underlying4 _) trodAll_mk0) (λsp gG=>?_) (λ_ _=>rfl) (by simp) bc.below (ok_one (by kernel_rfl) rfl (okWide_bool_mk Tryz.underlying4 _))⟩
  have t0:=WideElems.Trod_stays laidOut (by kernel_rfl) (of_decide_eq_true (by kernel_rfl)) h0 (λx hx=>bc.below.same (bw x hx)) gG
  have aN:=(trodAll_cons_mk t0 (trodAll_mk0 (H:=H) (enc:=enc) (P:=Tryz.prog) (w:=W') (base:=0) (spare:=sp) (held:=true)))
  simp only[List.append_nil] at aN
  exact aN
noncomputable def di (os:Os):World:=World.holding Tryz.prog os ⟨#[],#[],[]⟩
theorem iF (os:Os):laidMet Tryz.prog Rows.fnNeckOnceRow.laid ((di os).forCall (λ_ _=>0) ⟨#[],#[.slice none 0 0],[]⟩).memory:=laidMet_of_run' 8 (by kernel_rfl) (by kernel_rfl)
theorem reads (os:Os) {H:Type} (enc:TypeId×Value->H):∃places,DataW.whole enc Tryz.prog ((di os).forCall (λ_ _=>0) ⟨#[],#[.slice none 0 0],[]⟩).memory Tryz.f16.params.toList Rows.fnNeckOnceSpec.vars false #[Value.slice none 0 0].toList 8=some ([.nil],[],places):=
 ⟨[],by kernel_rfl⟩
set_option maxRecDepth 100000 in
theorem lifted (os:Os) (started:os.Started) (H:Type) (enc:TypeId×Value->H) (F:Stop.Interp):
 ReturnsInHanded {} Tryz.checked os 16 .any ((OpenSpec.ofChange Rows.fnNeckOnceSpec).preRow enc Tryz.prog Tryz.f16 Rows.fnNeckOnceRow.domain false Rows.fnNeckOnceRow.laid) (((OpenSpec.ofChange Rows.fnNeckOnceSpec).at F).post enc Tryz.prog Tryz.f16 false true false false):=by
 obtain⟨places,hx⟩:=reads os enc
 refine returnsInHanded_of_row (C:=Tryz.checked) (s:=OpenSpec.ofChange Rows.fnNeckOnceSpec) own started (by kernel_rfl) Tryz.func16
  (witness_row_at (enc:=enc) (C:=Tryz.checked) false (di os) #[.slice none 0 0] rfl (by kernel_rfl) (by kernel_rfl) (by kernel_rfl)
    (OpenSpec.preRow_of_cond 8 hx (by kernel_rfl) (λk hk=>by cases hk) (by kernel_rfl) (iF os))) ?_
 intro W base args ds gs before cr hW _ _ _ hL _ _
 exact iD H enc W base args ds gs before cr hW
end FrFnNeckOnce
theorem fnNeckOnce_holds:Rows.FnNeckOnceSaid:=
 OpenClaim.holds_of_cond 16 Tryz.f16 rfl rfl rfl rfl rfl rfl rfl ⟨rfl,rfl,rfl,rfl,rfl⟩ rfl rfl rfl rfl rfl (by kernel_rfl) Tryz.func16 FrFnNeckOnce.closed
  (of_decide_eq_true (by kernel_rfl)) (by unfold Func.isWrapper;first|(rw[if_pos (by decide+kernel)];kernel_rfl)|(rw[if_neg (by decide+kernel)];exact⟨rfl,rfl⟩))
  (λos started H enc _ F=>by rw[OpenClaim.pre_eq_preRow];exact FrFnNeckOnce.lifted os started H enc F)
end Go.Proofs.YtjepcfpkclegdaaGreat
