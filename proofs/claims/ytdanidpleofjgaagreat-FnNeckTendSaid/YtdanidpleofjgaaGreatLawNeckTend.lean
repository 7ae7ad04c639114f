/- FnNeckTend: to tend changes no server. Conditions: none. -/
import Derived.Test.YtdanidpleofjgaaGreatRows
import Derived.JoinedCond
import Derived.Test.YtdanidpleofjgaaGreatQ02
set_option linter.all false
set_option maxRecDepth 100000
set_option maxHeartbeats 4000000
namespace Go.Proofs.YtdanidpleofjgaaGreat
open Go Go.RowKit Go.Proofs.Tryz
attribute [local irreducible] wpList Code.wp Ok
open Go.ChangeShapes Go.WideShapes Go.ChangeAt
namespace FrFnNeckTend
def and_true {x y:Bool} (h:x=true) (k:y=true):(x&&y)=true:=by rw[h,k];rfl
def nJ:(λ(P:Program) (f:FuncId) (fn:Func) (s:ChangeSpec) (c:OpenClaim)=>c.wf (OpenSpec.ofChange s)) prog 8 f8 Rows.fnNeckTendSpec Rows.fnNeckTendRow=true:=by kernel_rfl
def nK:(λ(P:Program) (f:FuncId) (fn:Func) (s:ChangeSpec) (c:OpenClaim)=>laidOutB P) prog 8 f8 Rows.fnNeckTendSpec Rows.fnNeckTendRow=true:=by kernel_rfl
def nL:(λ(P:Program) (f:FuncId) (fn:Func) (s:ChangeSpec) (c:OpenClaim)=>mapsRowed P) prog 8 f8 Rows.fnNeckTendSpec Rows.fnNeckTendRow=true:=by kernel_rfl
def nM:(λ(P:Program) (f:FuncId) (fn:Func) (s:ChangeSpec) (c:OpenClaim)=>fn.params.all (P.readableRec ·)) prog 8 f8 Rows.fnNeckTendSpec Rows.fnNeckTendRow=true:=by kernel_rfl
def nN:(λ(P:Program) (f:FuncId) (fn:Func) (s:ChangeSpec) (c:OpenClaim)=>namedTie P c.named s.vars) prog 8 f8 Rows.fnNeckTendSpec Rows.fnNeckTendRow=true:=by kernel_rfl
def nO:(λ(P:Program) (f:FuncId) (fn:Func) (s:ChangeSpec) (c:OpenClaim)=>(c.stops==[])) prog 8 f8 Rows.fnNeckTendSpec Rows.fnNeckTendRow=true:=by kernel_rfl
def nP:(λ(P:Program) (f:FuncId) (fn:Func) (s:ChangeSpec) (c:OpenClaim)=>(P.stops==[])) prog 8 f8 Rows.fnNeckTendSpec Rows.fnNeckTendRow=true:=by kernel_rfl
def nQ:(λ(P:Program) (f:FuncId) (fn:Func) (s:ChangeSpec) (c:OpenClaim)=>(c.knobs==[])) prog 8 f8 Rows.fnNeckTendSpec Rows.fnNeckTendRow=true:=by kernel_rfl
def nR:(λ(P:Program) (f:FuncId) (fn:Func) (s:ChangeSpec) (c:OpenClaim)=>(P.stopKnobs==[])) prog 8 f8 Rows.fnNeckTendSpec Rows.fnNeckTendRow=true:=by kernel_rfl
def nS:(λ(P:Program) (f:FuncId) (fn:Func) (s:ChangeSpec) (c:OpenClaim)=>(c.inPlace==P.inPlace f)) prog 8 f8 Rows.fnNeckTendSpec Rows.fnNeckTendRow=true:=by kernel_rfl
def nT:(λ(P:Program) (f:FuncId) (fn:Func) (s:ChangeSpec) (c:OpenClaim)=>(c.unfollowed==P.unfollowed f)) prog 8 f8 Rows.fnNeckTendSpec Rows.fnNeckTendRow=true:=by kernel_rfl
def nU:(λ(P:Program) (f:FuncId) (fn:Func) (s:ChangeSpec) (c:OpenClaim)=>(c.recurses==P.recurses f)) prog 8 f8 Rows.fnNeckTendSpec Rows.fnNeckTendRow=true:=by kernel_rfl
def nV:(λ(P:Program) (f:FuncId) (fn:Func) (s:ChangeSpec) (c:OpenClaim)=>(c.named==P.varsNamed f)) prog 8 f8 Rows.fnNeckTendSpec Rows.fnNeckTendRow=true:=by kernel_rfl
def nW:(λ(P:Program) (f:FuncId) (fn:Func) (s:ChangeSpec) (c:OpenClaim)=>(c.maps==(fn.params.toList++s.plain.varTypes P).any (P.mapsRec ·))) prog 8 f8 Rows.fnNeckTendSpec Rows.fnNeckTendRow=true:=by kernel_rfl
def nX:(λ(P:Program) (f:FuncId) (fn:Func) (s:ChangeSpec) (c:OpenClaim)=>(c.ifaces==(fn.params.toList++s.plain.varTypes P).any (P.ifacesRec ·))) prog 8 f8 Rows.fnNeckTendSpec Rows.fnNeckTendRow=true:=by kernel_rfl
def nY:(λ(P:Program) (f:FuncId) (fn:Func) (s:ChangeSpec) (c:OpenClaim)=>(c.mapsOut==P.mapsAmong fn.resultTypes.toList)) prog 8 f8 Rows.fnNeckTendSpec Rows.fnNeckTendRow=true:=by kernel_rfl
def nZ:(λ(P:Program) (f:FuncId) (fn:Func) (s:ChangeSpec) (c:OpenClaim)=>(c.loops==(fn.params.toList++s.plain.varTypes P).any (P.loopsFrom ·))) prog 8 f8 Rows.fnNeckTendSpec Rows.fnNeckTendRow=true:=by kernel_rfl
def oa:(λ(P:Program) (f:FuncId) (fn:Func) (s:ChangeSpec) (c:OpenClaim)=>(c.wideKeys==(fn.params.toList++s.plain.varTypes P++fn.resultTypes.toList).any (P.wideKeysFrom ·))) prog 8 f8 Rows.fnNeckTendSpec Rows.fnNeckTendRow=true:=by kernel_rfl
def ob:(λ(P:Program) (f:FuncId) (fn:Func) (s:ChangeSpec) (c:OpenClaim)=>s.vars.all (P.varReadable ·)) prog 8 f8 Rows.fnNeckTendSpec Rows.fnNeckTendRow=true:=by kernel_rfl
def oc:(λ(P:Program) (f:FuncId) (fn:Func) (s:ChangeSpec) (c:OpenClaim)=>fn.resultTypes.all (λt=>P.readableRec t&&decide (t<P.types.size))) prog 8 f8 Rows.fnNeckTendSpec Rows.fnNeckTendRow=true:=by kernel_rfl
def od:(λ(P:Program) (f:FuncId) (fn:Func) (s:ChangeSpec) (c:OpenClaim)=>(c.ifacesOut==fn.resultTypes.toList.any (P.ifacesRec ·))) prog 8 f8 Rows.fnNeckTendSpec Rows.fnNeckTendRow=true:=by kernel_rfl
def oe:(λ(P:Program) (f:FuncId) (fn:Func) (s:ChangeSpec) (c:OpenClaim)=>(c.loopsOut==fn.resultTypes.toList.any (P.loopsFrom ·))) prog 8 f8 Rows.fnNeckTendSpec Rows.fnNeckTendRow=true:=by kernel_rfl
def og:(λ(P:Program) (f:FuncId) (fn:Func) (s:ChangeSpec) (c:OpenClaim)=>(c.plainKeys==P.plainKeys)) prog 8 f8 Rows.fnNeckTendSpec Rows.fnNeckTendRow=true:=by kernel_rfl
def oh:(λ(P:Program) (f:FuncId) (fn:Func) (s:ChangeSpec) (c:OpenClaim)=>c.shortTexts.isNone) prog 8 f8 Rows.fnNeckTendSpec Rows.fnNeckTendRow=true:=by kernel_rfl
def oi:(λ(P:Program) (f:FuncId) (fn:Func) (s:ChangeSpec) (c:OpenClaim)=>P.stopsHeard) prog 8 f8 Rows.fnNeckTendSpec Rows.fnNeckTendRow=true:=by kernel_rfl
def oj:(λ(P:Program) (f:FuncId) (fn:Func) (s:ChangeSpec) (c:OpenClaim)=>P.mayEnter) prog 8 f8 Rows.fnNeckTendSpec Rows.fnNeckTendRow=true:=by kernel_rfl
def ot:(λ(P:Program) (f:FuncId) (fn:Func) (s:ChangeSpec) (c:OpenClaim)=>(c.lifted==P.liftsFinal)) prog 8 f8 Rows.fnNeckTendSpec Rows.fnNeckTendRow=true:=by kernel_rfl
def ou:(λ(P:Program) (f:FuncId) (fn:Func) (s:ChangeSpec) (c:OpenClaim)=>(P.make==some c.make)) prog 8 f8 Rows.fnNeckTendSpec Rows.fnNeckTendRow=true:=by kernel_rfl
def ov:(λ(P:Program) (f:FuncId) (fn:Func) (s:ChangeSpec) (c:OpenClaim)=>(c.kinds==(if c.domain.isEmpty then[] else fn.params.toList.map λt=>match P.underlying t with|some (.int k)=>some k|_=>none))) prog 8 f8 Rows.fnNeckTendSpec Rows.fnNeckTendRow=true:=by kernel_rfl
def ow:(λ(P:Program) (f:FuncId) (fn:Func) (s:ChangeSpec) (c:OpenClaim)=>(c.pinned==c.pinnedBy)) prog 8 f8 Rows.fnNeckTendSpec Rows.fnNeckTendRow=true:=by kernel_rfl
def ox:(λ(P:Program) (f:FuncId) (fn:Func) (s:ChangeSpec) (c:OpenClaim)=>(c.veiled==(fn.params.toList++s.plain.varTypes P++fn.resultTypes.toList).any (P.veiledRec ·))) prog 8 f8 Rows.fnNeckTendSpec Rows.fnNeckTendRow=true:=by kernel_rfl
def oz:(λ(P:Program) (f:FuncId) (fn:Func) (s:ChangeSpec) (c:OpenClaim)=>c.veiledFits P fn.params.toList (fn.params.toList++s.plain.varTypes P++fn.resultTypes.toList)) prog 8 f8 Rows.fnNeckTendSpec Rows.fnNeckTendRow=true:=by kernel_rfl
def closed:joinedFacts prog 8 f8 Rows.fnNeckTendSpec Rows.fnNeckTendRow=true:=and_true (and_true (and_true (and_true (and_true (and_true (and_true (and_true (and_true (and_true (and_true (and_true (and_true (and_true (and_true (and_true (and_true (and_true (and_true (and_true (and_true (and_true (and_true (and_true (and_true (and_true (and_true (and_true (and_true (and_true (and_true (nJ) nK) nL) nM) nN) nO) nP) nQ) nR) nS) nT) nU) nV) nW) nX) nY) nZ) oa) ob) oc) od) oe) og) oh) oi) oj) ot) ou) ov) ow) ox) oz
def own:ownKnob prog.godebug=none:=by kernel_rfl
def laidOut:laidOutB prog=true:=by kernel_rfl
def oA (H:Type) (enc:TypeId×Value->H) (W:World) (base:Nat) (args:Array Value) (ds gs:List (DataW H)) (before:List MemPlace)
 (eV:∀(j:Nat) t v,f8.params[j]?=some t->args[j]?=some v->Value.okWide prog W .any base t v)
 (hW:DataW.Whole enc prog f8.params.toList Rows.fnNeckTendSpec.vars false W args.toList ds gs before):
 Calls prog 8 args W λe W'=>∃v,e=.returned v/\Rows.fnNeckTendSpec.post enc prog f8 false true false false W args v W':=by
 have iE:=hW;obtain⟨p,q,ke,hV,rfl,xV,ec⟩:=hW;have hA:DataW.TrodAll enc prog W 0 (λ_=>true) true f8.params.toList args.toList ds p:=ke;rw[params8] at hA eV;obtain⟨v0,xW,d0,xX,p0,q0,gK,rfl,rfl,h0,r0⟩:=trodAll_cons hA;obtain⟨rfl,rfl,rfl⟩:=trodAll_nil r0;obtain rfl:args=#[v0]:=by cases args;simp_all
 obtain⟨rfl,rfl⟩:=trodVars_none hV;clear ke;simp only[List.append_nil] at iE;have kW:Value.okWide prog W .any base 22 v0:=eV 0 22 v0 rfl rfl;obtain⟨x0,oB,f0⟩:=ug (base:=0) uh (ui (show prog.underlying 22=some (.slice 5) by kernel_rfl) kW) h0;have walk:=(UB x0).2 (lS W) W #[v0] (vD W) ⟨oB,trivial⟩;refine walk.mono λe W' he=>?_;cases e with
 |panicked _=>exact he.elim
 |outgrown=>exact he.elim
 |returned v=>
  obtain⟨I',be,hv⟩:=he
  have hv:v=.bool true:=hv
  subst hv
  have bK:∀x∈(p0),x.block<W.heap.size:=λx hx=>iE.lt x hx
  refine⟨_,rfl,vE (pa:=p0) (pv:=[]) iE (λ_ _ _=>trodAll_cons_mk (shut_bool Tryz.underlying4 _) trodAll_mk0) (λsp m4=>?_) (λ_ _=>rfl) bt be.below (ok_one aG rfl (okWide_bool_mk Tryz.underlying4 _))⟩
  have t0:=WideElems.Trod_stays laidOut aG (of_decide_eq_true aG) h0 (λx hx=>be.below.same (bK x hx)) m4
  have aT:=(trodAll_cons_mk t0 (trodAll_mk0 (H:=H) (enc:=enc) (P:=prog) (w:=W') (base:=0) (spare:=sp) (held:=true)))
  simp only[List.append_nil] at aT
  exact aT
noncomputable def iF (os:Os):World:=World.holding prog os ⟨#[],#[],[]⟩
def oC (os:Os):laidMet prog Rows.fnNeckTendRow.laid ((iF os).forCall (λ_ _=>0) ⟨#[],#[.slice none 0 0],[]⟩).memory:=laidMet_of_run' 8 aG aG
def reads (os:Os) {H:Type} (enc:TypeId×Value->H):∃places,DataW.whole enc prog ((iF os).forCall (λ_ _=>0) ⟨#[],#[.slice none 0 0],[]⟩).memory f8.params.toList Rows.fnNeckTendSpec.vars false #[Value.slice none 0 0].toList 8=some ([.nil],[],places):=
 ⟨[],by kernel_rfl⟩
set_option maxRecDepth 100000 in
def lifted (os:Os) (started:os.Started) (H:Type) (enc:TypeId×Value->H) (F:Stop.Interp):
 ReturnsInHanded {} checked os 8 .any ((OpenSpec.ofChange Rows.fnNeckTendSpec).preRow enc prog f8 Rows.fnNeckTendRow.domain false Rows.fnNeckTendRow.laid) (((OpenSpec.ofChange Rows.fnNeckTendSpec).at F).post enc prog f8 false true false false):=by
 obtain⟨places,hx⟩:=reads os enc;refine returnsInHanded_of_row (C:=checked) (s:=OpenSpec.ofChange Rows.fnNeckTendSpec) own started aG func8
  (witness_row_at (enc:=enc) (C:=checked) false (iF os) #[.slice none 0 0] rfl aG aG aG
    (OpenSpec.preRow_of_cond 8 hx aG (λk hk=>by cases hk) aG (oC os))) ?_
 intro W base args ds gs before eV hW _ _ _ hL _ _;exact oA H enc W base args ds gs before eV hW
end FrFnNeckTend
theorem fnNeckTend_holds:Rows.FnNeckTendSaid:=
 OpenClaim.holds_of_cond 8 f8 rfl rfl rfl rfl rfl rfl rfl ⟨rfl,rfl,rfl,rfl,rfl⟩ rfl rfl rfl rfl rfl aG func8 FrFnNeckTend.closed
  (of_decide_eq_true aG) (by unfold Func.isWrapper;first|(rw[if_pos (by decide+kernel)];kernel_rfl)|(rw[if_neg (by decide+kernel)];exact⟨rfl,rfl⟩))
  (λos started H enc _ F=>by rw[OpenClaim.pre_eq_preRow];exact FrFnNeckTend.lifted os started H enc F)
end Go.Proofs.YtdanidpleofjgaaGreat
