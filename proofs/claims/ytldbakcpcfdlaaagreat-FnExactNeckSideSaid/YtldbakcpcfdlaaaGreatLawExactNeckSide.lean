/- FnExactNeckSide: for every run and every side the program's NeckSide returns the reference's row of versions, leaves its argument as it was, and shares no memory with it or with another result. Conditions: none. -/
import Derived.Test.YtldbakcpcfdlaaaGreatRows
import Derived.JoinedCond
import Derived.Test.YtldbakcpcfdlaaaGreatU22
set_option linter.all false
set_option maxRecDepth 100000
set_option maxHeartbeats 4000000
namespace Go.Proofs.YtldbakcpcfdlaaaGreat
open Go Go.RowKit Go.Proofs.Tryz
attribute [local irreducible] wpList Code.wp Ok
open Go.ChangeShapes Go.WideShapes Go.ChangeAt
namespace FrFnExactNeckSide
def and_true {x y:Bool} (h:x=true) (k:y=true):(x&&y)=true:=by rw[h,k];rfl
def yB:(λ(P:Program) (f:FuncId) (fn:Func) (s:ChangeSpec) (c:OpenClaim)=>c.wf (OpenSpec.ofChange s)) prog 10 f10 Rows.fnExactNeckSideSpec Rows.fnExactNeckSideRow=true:=by kernel_rfl
def yC:(λ(P:Program) (f:FuncId) (fn:Func) (s:ChangeSpec) (c:OpenClaim)=>laidOutB P) prog 10 f10 Rows.fnExactNeckSideSpec Rows.fnExactNeckSideRow=true:=by kernel_rfl
def yD:(λ(P:Program) (f:FuncId) (fn:Func) (s:ChangeSpec) (c:OpenClaim)=>mapsRowed P) prog 10 f10 Rows.fnExactNeckSideSpec Rows.fnExactNeckSideRow=true:=by kernel_rfl
def yE:(λ(P:Program) (f:FuncId) (fn:Func) (s:ChangeSpec) (c:OpenClaim)=>fn.params.all (P.readableRec ·)) prog 10 f10 Rows.fnExactNeckSideSpec Rows.fnExactNeckSideRow=true:=by kernel_rfl
def yF:(λ(P:Program) (f:FuncId) (fn:Func) (s:ChangeSpec) (c:OpenClaim)=>namedTie P c.named s.vars) prog 10 f10 Rows.fnExactNeckSideSpec Rows.fnExactNeckSideRow=true:=by kernel_rfl
def yG:(λ(P:Program) (f:FuncId) (fn:Func) (s:ChangeSpec) (c:OpenClaim)=>(c.stops==[])) prog 10 f10 Rows.fnExactNeckSideSpec Rows.fnExactNeckSideRow=true:=by kernel_rfl
def yH:(λ(P:Program) (f:FuncId) (fn:Func) (s:ChangeSpec) (c:OpenClaim)=>(P.stops==[])) prog 10 f10 Rows.fnExactNeckSideSpec Rows.fnExactNeckSideRow=true:=by kernel_rfl
def yI:(λ(P:Program) (f:FuncId) (fn:Func) (s:ChangeSpec) (c:OpenClaim)=>(c.knobs==[])) prog 10 f10 Rows.fnExactNeckSideSpec Rows.fnExactNeckSideRow=true:=by kernel_rfl
def yJ:(λ(P:Program) (f:FuncId) (fn:Func) (s:ChangeSpec) (c:OpenClaim)=>(P.stopKnobs==[])) prog 10 f10 Rows.fnExactNeckSideSpec Rows.fnExactNeckSideRow=true:=by kernel_rfl
def yK:(λ(P:Program) (f:FuncId) (fn:Func) (s:ChangeSpec) (c:OpenClaim)=>(c.inPlace==P.inPlace f)) prog 10 f10 Rows.fnExactNeckSideSpec Rows.fnExactNeckSideRow=true:=by kernel_rfl
def yL:(λ(P:Program) (f:FuncId) (fn:Func) (s:ChangeSpec) (c:OpenClaim)=>(c.unfollowed==P.unfollowed f)) prog 10 f10 Rows.fnExactNeckSideSpec Rows.fnExactNeckSideRow=true:=by kernel_rfl
def yM:(λ(P:Program) (f:FuncId) (fn:Func) (s:ChangeSpec) (c:OpenClaim)=>(c.recurses==P.recurses f)) prog 10 f10 Rows.fnExactNeckSideSpec Rows.fnExactNeckSideRow=true:=by kernel_rfl
def yN:(λ(P:Program) (f:FuncId) (fn:Func) (s:ChangeSpec) (c:OpenClaim)=>(c.named==P.varsNamed f)) prog 10 f10 Rows.fnExactNeckSideSpec Rows.fnExactNeckSideRow=true:=by kernel_rfl
def yO:(λ(P:Program) (f:FuncId) (fn:Func) (s:ChangeSpec) (c:OpenClaim)=>(c.maps==(fn.params.toList++s.plain.varTypes P).any (P.mapsRec ·))) prog 10 f10 Rows.fnExactNeckSideSpec Rows.fnExactNeckSideRow=true:=by kernel_rfl
def yP:(λ(P:Program) (f:FuncId) (fn:Func) (s:ChangeSpec) (c:OpenClaim)=>(c.ifaces==(fn.params.toList++s.plain.varTypes P).any (P.ifacesRec ·))) prog 10 f10 Rows.fnExactNeckSideSpec Rows.fnExactNeckSideRow=true:=by kernel_rfl
def yQ:(λ(P:Program) (f:FuncId) (fn:Func) (s:ChangeSpec) (c:OpenClaim)=>(c.mapsOut==P.mapsAmong fn.resultTypes.toList)) prog 10 f10 Rows.fnExactNeckSideSpec Rows.fnExactNeckSideRow=true:=by kernel_rfl
def yR:(λ(P:Program) (f:FuncId) (fn:Func) (s:ChangeSpec) (c:OpenClaim)=>(c.loops==(fn.params.toList++s.plain.varTypes P).any (P.loopsFrom ·))) prog 10 f10 Rows.fnExactNeckSideSpec Rows.fnExactNeckSideRow=true:=by kernel_rfl
def yS:(λ(P:Program) (f:FuncId) (fn:Func) (s:ChangeSpec) (c:OpenClaim)=>(c.wideKeys==(fn.params.toList++s.plain.varTypes P++fn.resultTypes.toList).any (P.wideKeysFrom ·))) prog 10 f10 Rows.fnExactNeckSideSpec Rows.fnExactNeckSideRow=true:=by kernel_rfl
def yT:(λ(P:Program) (f:FuncId) (fn:Func) (s:ChangeSpec) (c:OpenClaim)=>s.vars.all (P.varReadable ·)) prog 10 f10 Rows.fnExactNeckSideSpec Rows.fnExactNeckSideRow=true:=by kernel_rfl
def yU:(λ(P:Program) (f:FuncId) (fn:Func) (s:ChangeSpec) (c:OpenClaim)=>fn.resultTypes.all (λt=>P.readableRec t&&decide (t<P.types.size))) prog 10 f10 Rows.fnExactNeckSideSpec Rows.fnExactNeckSideRow=true:=by kernel_rfl
def yV:(λ(P:Program) (f:FuncId) (fn:Func) (s:ChangeSpec) (c:OpenClaim)=>(c.ifacesOut==fn.resultTypes.toList.any (P.ifacesRec ·))) prog 10 f10 Rows.fnExactNeckSideSpec Rows.fnExactNeckSideRow=true:=by kernel_rfl
def yW:(λ(P:Program) (f:FuncId) (fn:Func) (s:ChangeSpec) (c:OpenClaim)=>(c.loopsOut==fn.resultTypes.toList.any (P.loopsFrom ·))) prog 10 f10 Rows.fnExactNeckSideSpec Rows.fnExactNeckSideRow=true:=by kernel_rfl
def yX:(λ(P:Program) (f:FuncId) (fn:Func) (s:ChangeSpec) (c:OpenClaim)=>(c.plainKeys==P.plainKeys)) prog 10 f10 Rows.fnExactNeckSideSpec Rows.fnExactNeckSideRow=true:=by kernel_rfl
def yY:(λ(P:Program) (f:FuncId) (fn:Func) (s:ChangeSpec) (c:OpenClaim)=>c.shortTexts.isNone) prog 10 f10 Rows.fnExactNeckSideSpec Rows.fnExactNeckSideRow=true:=by kernel_rfl
def yZ:(λ(P:Program) (f:FuncId) (fn:Func) (s:ChangeSpec) (c:OpenClaim)=>P.stopsHeard) prog 10 f10 Rows.fnExactNeckSideSpec Rows.fnExactNeckSideRow=true:=by kernel_rfl
def za:(λ(P:Program) (f:FuncId) (fn:Func) (s:ChangeSpec) (c:OpenClaim)=>P.mayEnter) prog 10 f10 Rows.fnExactNeckSideSpec Rows.fnExactNeckSideRow=true:=by kernel_rfl
def zb:(λ(P:Program) (f:FuncId) (fn:Func) (s:ChangeSpec) (c:OpenClaim)=>(c.lifted==P.liftsFinal)) prog 10 f10 Rows.fnExactNeckSideSpec Rows.fnExactNeckSideRow=true:=by kernel_rfl
def zc:(λ(P:Program) (f:FuncId) (fn:Func) (s:ChangeSpec) (c:OpenClaim)=>(P.make==some c.make)) prog 10 f10 Rows.fnExactNeckSideSpec Rows.fnExactNeckSideRow=true:=by kernel_rfl
def zd:(λ(P:Program) (f:FuncId) (fn:Func) (s:ChangeSpec) (c:OpenClaim)=>(c.kinds==(if c.domain.isEmpty then[] else fn.params.toList.map λt=>match P.underlying t with|some (.int k)=>some k|_=>none))) prog 10 f10 Rows.fnExactNeckSideSpec Rows.fnExactNeckSideRow=true:=by kernel_rfl
def ze:(λ(P:Program) (f:FuncId) (fn:Func) (s:ChangeSpec) (c:OpenClaim)=>(c.pinned==c.pinnedBy)) prog 10 f10 Rows.fnExactNeckSideSpec Rows.fnExactNeckSideRow=true:=by kernel_rfl
def zh:(λ(P:Program) (f:FuncId) (fn:Func) (s:ChangeSpec) (c:OpenClaim)=>(c.veiled==(fn.params.toList++s.plain.varTypes P++fn.resultTypes.toList).any (P.veiledRec ·))) prog 10 f10 Rows.fnExactNeckSideSpec Rows.fnExactNeckSideRow=true:=by kernel_rfl
def zi:(λ(P:Program) (f:FuncId) (fn:Func) (s:ChangeSpec) (c:OpenClaim)=>c.veiledFits P fn.params.toList (fn.params.toList++s.plain.varTypes P++fn.resultTypes.toList)) prog 10 f10 Rows.fnExactNeckSideSpec Rows.fnExactNeckSideRow=true:=by kernel_rfl
def closed:joinedFacts prog 10 f10 Rows.fnExactNeckSideSpec Rows.fnExactNeckSideRow=true:=and_true (and_true (and_true (and_true (and_true (and_true (and_true (and_true (and_true (and_true (and_true (and_true (and_true (and_true (and_true (and_true (and_true (and_true (and_true (and_true (and_true (and_true (and_true (and_true (and_true (and_true (and_true (and_true (and_true (and_true (and_true (yB) yC) yD) yE) yF) yG) yH) yI) yJ) yK) yL) yM) yN) yO) yP) yQ) yR) yS) yT) yU) yV) yW) yX) yY) yZ) za) zb) zc) zd) ze) zh) zi
def own:ownKnob prog.godebug=none:=by kernel_rfl
def laidOut:laidOutB prog=true:=by kernel_rfl
def zj (H:Type) (enc:TypeId×Value->H) (W:World) (base:Nat) (args:Array Value) (ds gs:List (DataW H)) (before:List MemPlace)
 (ml:∀(j:Nat) t v,f10.params[j]?=some t->args[j]?=some v->Value.okWide prog W .any base t v)
 (hW:DataW.Whole enc prog f10.params.toList Rows.fnExactNeckSideSpec.vars false W args.toList ds gs before):
 Calls prog 10 args W λe W'=>∃v,e=.returned v/\Rows.fnExactNeckSideSpec.post enc prog f10 false true false false W args v W':=by
 have pR:=hW;obtain⟨p,q,tm,hV,rfl,Hk,c8⟩:=hW;have hA:DataW.TrodAll enc prog W 0 (λ_=>true) true f10.params.toList args.toList ds p:=tm;rw[params10] at hA ml;obtain⟨v0,tn,d0,Hl,p0,q0,eM,rfl,rfl,h0,r0⟩:=trodAll_cons hA;obtain⟨v1,Hm,d1,Hn,p1,q1,rfl,rfl,rfl,h1,r1⟩:=trodAll_cons r0;obtain⟨rfl,rfl,rfl⟩:=trodAll_nil r1;obtain rfl:args=#[v0,v1]:=by cases args;simp_all
 obtain⟨rfl,rfl⟩:=trodVars_none hV;clear tm;simp only[List.append_nil] at pR;have nR:Value.okWide prog W .any base 70 v0:=ml 0 70 v0 rfl rfl;obtain⟨x0,zl,f0⟩:=zm (show prog.underlying 70=some (.struct (prog.fieldsOf 70)) by kernel_rfl) zn nR h0;have zq:Value.okWide prog W .any base 3 v1:=ml 1 3 v1 rfl rfl;obtain⟨x1,mn,f1⟩:=zu (base:=0) (cW (t:=3) aj) (zw (show prog.underlying 3=some (.int .i64) by kernel_rfl) zq) h1;have walk:=(zx x0 x1 f0).2 (gz W) W #[v0,v1] (zy W) ⟨zl,⟨mn,trivial⟩⟩;refine walk.mono λe W' he=>?_;cases e with
 |panicked _=>exact he.elim
 |outgrown=>exact he.elim
 |returned v=>
  obtain⟨I',aX,hv⟩:=he
  have hv:v=.bool true:=hv
  subst hv
  have bH:∀x∈(p0++p1),x.block<W.heap.size:=λx hx=>pR.lt x hx
  refine⟨_,rfl,zA (pa:=p0++p1) (pv:=[]) pR (λ_ _ _=>trodAll_cons_mk (shut_bool Tryz.underlying4 _) trodAll_mk0) (λsp nS=>?_) (λ_ _=>rfl) aJ aX.below (ok_one aj rfl (okWide_bool_mk Tryz.underlying4 _))⟩
  have t0:=WideElems.Trod_stays laidOut aj (of_decide_eq_true aj) h0 (λx hx=>aX.below.same (bH x (List.mem_append_left _ hx))) (λx hx=>nS x (List.mem_append_left _ hx))
  have t1:=WideElems.Trod_stays laidOut aj (of_decide_eq_true aj) h1 (λx hx=>aX.below.same (bH x (List.mem_append_right _ hx))) (λx hx=>nS x (List.mem_append_right _ hx))
  have au:=(trodAll_cons_mk t0 (trodAll_cons_mk t1 (trodAll_mk0 (H:=H) (enc:=enc) (P:=prog) (w:=W') (base:=0) (spare:=sp) (held:=true))))
  simp only[List.append_nil] at au
  exact au
noncomputable def pS (os:Os):World:=World.holding prog os ⟨#[],#[],[]⟩
def zB (os:Os):laidMet prog Rows.fnExactNeckSideRow.laid ((pS os).forCall (λ_ _=>0) ⟨#[],#[.agg #[.int .i64 0,.slice none 0 0,.slice none 0 0,.slice none 0 0,.slice none 0 0],.int .i64 0],[]⟩).memory:=laidMet_of_run' 8 aj aj
def reads (os:Os) {H:Type} (enc:TypeId×Value->H):∃places,DataW.whole enc prog ((pS os).forCall (λ_ _=>0) ⟨#[],#[.agg #[.int .i64 0,.slice none 0 0,.slice none 0 0,.slice none 0 0,.slice none 0 0],.int .i64 0],[]⟩).memory f10.params.toList Rows.fnExactNeckSideSpec.vars false #[Value.agg #[.int .i64 0,.slice none 0 0,.slice none 0 0,.slice none 0 0,.slice none 0 0],Value.int .i64 0].toList 8=some ([.agg [.lit (.int .i64 0),.nil,.nil,.nil,.nil],.lit (.int .i64 0)],[],places):=
 ⟨[],by kernel_rfl⟩
set_option maxRecDepth 100000 in
def lifted (os:Os) (started:os.Started) (H:Type) (enc:TypeId×Value->H) (F:Stop.Interp):
 ReturnsInHanded {} checked os 10 .any ((OpenSpec.ofChange Rows.fnExactNeckSideSpec).preRow enc prog f10 Rows.fnExactNeckSideRow.domain false Rows.fnExactNeckSideRow.laid) (((OpenSpec.ofChange Rows.fnExactNeckSideSpec).at F).post enc prog f10 false true false false):=by
 obtain⟨places,hx⟩:=reads os enc;refine returnsInHanded_of_row (C:=checked) (s:=OpenSpec.ofChange Rows.fnExactNeckSideSpec) own started aj func10
  (witness_row_at (enc:=enc) (C:=checked) false (pS os) #[.agg #[.int .i64 0,.slice none 0 0,.slice none 0 0,.slice none 0 0,.slice none 0 0],.int .i64 0] rfl aj aj aj
    (OpenSpec.preRow_of_cond 8 hx aj (λk hk=>by cases hk) aj (zB os))) ?_
 intro W base args ds gs before ml hW _ _ _ hL _ _;exact zj H enc W base args ds gs before ml hW
end FrFnExactNeckSide
theorem fnExactNeckSide_holds:Rows.FnExactNeckSideSaid:=
 OpenClaim.holds_of_cond 10 f10 rfl rfl rfl rfl rfl rfl rfl ⟨rfl,rfl,rfl,rfl,rfl⟩ rfl rfl rfl rfl rfl aj func10 FrFnExactNeckSide.closed
  (of_decide_eq_true aj) (by unfold Func.isWrapper;first|(rw[if_pos (by decide+kernel)];kernel_rfl)|(rw[if_neg (by decide+kernel)];exact⟨rfl,rfl⟩))
  (λos started H enc _ F=>by rw[OpenClaim.pre_eq_preRow];exact FrFnExactNeckSide.lifted os started H enc F)
end Go.Proofs.YtldbakcpcfdlaaaGreat
