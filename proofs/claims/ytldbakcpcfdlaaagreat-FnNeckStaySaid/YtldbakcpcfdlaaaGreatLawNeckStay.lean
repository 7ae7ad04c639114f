/- FnNeckStay: what is the same stays the same. Conditions: none. -/
import Derived.Test.YtldbakcpcfdlaaaGreatRows
import Derived.JoinedCond
import Derived.Test.YtldbakcpcfdlaaaGreatQ02
set_option linter.all false
set_option maxRecDepth 100000
set_option maxHeartbeats 4000000
namespace Go.Proofs.YtldbakcpcfdlaaaGreat
open Go Go.RowKit Go.Proofs.Tryz
attribute [local irreducible] wpList Code.wp Ok
open Go.ChangeShapes Go.WideShapes Go.ChangeAt
namespace FrFnNeckStay
def and_true {x y:Bool} (h:x=true) (k:y=true):(x&&y)=true:=by rw[h,k];rfl
def ra:(λ(P:Program) (f:FuncId) (fn:Func) (s:ChangeSpec) (c:OpenClaim)=>c.wf (OpenSpec.ofChange s)) prog 3 f3 Rows.fnNeckStaySpec Rows.fnNeckStayRow=true:=by kernel_rfl
def rb:(λ(P:Program) (f:FuncId) (fn:Func) (s:ChangeSpec) (c:OpenClaim)=>laidOutB P) prog 3 f3 Rows.fnNeckStaySpec Rows.fnNeckStayRow=true:=by kernel_rfl
def rf:(λ(P:Program) (f:FuncId) (fn:Func) (s:ChangeSpec) (c:OpenClaim)=>mapsRowed P) prog 3 f3 Rows.fnNeckStaySpec Rows.fnNeckStayRow=true:=by kernel_rfl
def rh:(λ(P:Program) (f:FuncId) (fn:Func) (s:ChangeSpec) (c:OpenClaim)=>fn.params.all (P.readableRec ·)) prog 3 f3 Rows.fnNeckStaySpec Rows.fnNeckStayRow=true:=by kernel_rfl
def ri:(λ(P:Program) (f:FuncId) (fn:Func) (s:ChangeSpec) (c:OpenClaim)=>namedTie P c.named s.vars) prog 3 f3 Rows.fnNeckStaySpec Rows.fnNeckStayRow=true:=by kernel_rfl
def rj:(λ(P:Program) (f:FuncId) (fn:Func) (s:ChangeSpec) (c:OpenClaim)=>(c.stops==[])) prog 3 f3 Rows.fnNeckStaySpec Rows.fnNeckStayRow=true:=by kernel_rfl
def rk:(λ(P:Program) (f:FuncId) (fn:Func) (s:ChangeSpec) (c:OpenClaim)=>(P.stops==[])) prog 3 f3 Rows.fnNeckStaySpec Rows.fnNeckStayRow=true:=by kernel_rfl
def rl:(λ(P:Program) (f:FuncId) (fn:Func) (s:ChangeSpec) (c:OpenClaim)=>(c.knobs==[])) prog 3 f3 Rows.fnNeckStaySpec Rows.fnNeckStayRow=true:=by kernel_rfl
def rm:(λ(P:Program) (f:FuncId) (fn:Func) (s:ChangeSpec) (c:OpenClaim)=>(P.stopKnobs==[])) prog 3 f3 Rows.fnNeckStaySpec Rows.fnNeckStayRow=true:=by kernel_rfl
def rn:(λ(P:Program) (f:FuncId) (fn:Func) (s:ChangeSpec) (c:OpenClaim)=>(c.inPlace==P.inPlace f)) prog 3 f3 Rows.fnNeckStaySpec Rows.fnNeckStayRow=true:=by kernel_rfl
def rq:(λ(P:Program) (f:FuncId) (fn:Func) (s:ChangeSpec) (c:OpenClaim)=>(c.unfollowed==P.unfollowed f)) prog 3 f3 Rows.fnNeckStaySpec Rows.fnNeckStayRow=true:=by kernel_rfl
def rr:(λ(P:Program) (f:FuncId) (fn:Func) (s:ChangeSpec) (c:OpenClaim)=>(c.recurses==P.recurses f)) prog 3 f3 Rows.fnNeckStaySpec Rows.fnNeckStayRow=true:=by kernel_rfl
def ru:(λ(P:Program) (f:FuncId) (fn:Func) (s:ChangeSpec) (c:OpenClaim)=>(c.named==P.varsNamed f)) prog 3 f3 Rows.fnNeckStaySpec Rows.fnNeckStayRow=true:=by kernel_rfl
def rv:(λ(P:Program) (f:FuncId) (fn:Func) (s:ChangeSpec) (c:OpenClaim)=>(c.maps==(fn.params.toList++s.plain.varTypes P).any (P.mapsRec ·))) prog 3 f3 Rows.fnNeckStaySpec Rows.fnNeckStayRow=true:=by kernel_rfl
def ry:(λ(P:Program) (f:FuncId) (fn:Func) (s:ChangeSpec) (c:OpenClaim)=>(c.ifaces==(fn.params.toList++s.plain.varTypes P).any (P.ifacesRec ·))) prog 3 f3 Rows.fnNeckStaySpec Rows.fnNeckStayRow=true:=by kernel_rfl
def rz:(λ(P:Program) (f:FuncId) (fn:Func) (s:ChangeSpec) (c:OpenClaim)=>(c.mapsOut==P.mapsAmong fn.resultTypes.toList)) prog 3 f3 Rows.fnNeckStaySpec Rows.fnNeckStayRow=true:=by kernel_rfl
def rA:(λ(P:Program) (f:FuncId) (fn:Func) (s:ChangeSpec) (c:OpenClaim)=>(c.loops==(fn.params.toList++s.plain.varTypes P).any (P.loopsFrom ·))) prog 3 f3 Rows.fnNeckStaySpec Rows.fnNeckStayRow=true:=by kernel_rfl
def rB:(λ(P:Program) (f:FuncId) (fn:Func) (s:ChangeSpec) (c:OpenClaim)=>(c.wideKeys==(fn.params.toList++s.plain.varTypes P++fn.resultTypes.toList).any (P.wideKeysFrom ·))) prog 3 f3 Rows.fnNeckStaySpec Rows.fnNeckStayRow=true:=by kernel_rfl
def rC:(λ(P:Program) (f:FuncId) (fn:Func) (s:ChangeSpec) (c:OpenClaim)=>s.vars.all (P.varReadable ·)) prog 3 f3 Rows.fnNeckStaySpec Rows.fnNeckStayRow=true:=by kernel_rfl
def rD:(λ(P:Program) (f:FuncId) (fn:Func) (s:ChangeSpec) (c:OpenClaim)=>fn.resultTypes.all (λt=>P.readableRec t&&decide (t<P.types.size))) prog 3 f3 Rows.fnNeckStaySpec Rows.fnNeckStayRow=true:=by kernel_rfl
def rE:(λ(P:Program) (f:FuncId) (fn:Func) (s:ChangeSpec) (c:OpenClaim)=>(c.ifacesOut==fn.resultTypes.toList.any (P.ifacesRec ·))) prog 3 f3 Rows.fnNeckStaySpec Rows.fnNeckStayRow=true:=by kernel_rfl
def rF:(λ(P:Program) (f:FuncId) (fn:Func) (s:ChangeSpec) (c:OpenClaim)=>(c.loopsOut==fn.resultTypes.toList.any (P.loopsFrom ·))) prog 3 f3 Rows.fnNeckStaySpec Rows.fnNeckStayRow=true:=by kernel_rfl
def rG:(λ(P:Program) (f:FuncId) (fn:Func) (s:ChangeSpec) (c:OpenClaim)=>(c.plainKeys==P.plainKeys)) prog 3 f3 Rows.fnNeckStaySpec Rows.fnNeckStayRow=true:=by kernel_rfl
def rH:(λ(P:Program) (f:FuncId) (fn:Func) (s:ChangeSpec) (c:OpenClaim)=>c.shortTexts.isNone) prog 3 f3 Rows.fnNeckStaySpec Rows.fnNeckStayRow=true:=by kernel_rfl
def rI:(λ(P:Program) (f:FuncId) (fn:Func) (s:ChangeSpec) (c:OpenClaim)=>P.stopsHeard) prog 3 f3 Rows.fnNeckStaySpec Rows.fnNeckStayRow=true:=by kernel_rfl
def rJ:(λ(P:Program) (f:FuncId) (fn:Func) (s:ChangeSpec) (c:OpenClaim)=>P.mayEnter) prog 3 f3 Rows.fnNeckStaySpec Rows.fnNeckStayRow=true:=by kernel_rfl
def rK:(λ(P:Program) (f:FuncId) (fn:Func) (s:ChangeSpec) (c:OpenClaim)=>(c.lifted==P.liftsFinal)) prog 3 f3 Rows.fnNeckStaySpec Rows.fnNeckStayRow=true:=by kernel_rfl
def rL:(λ(P:Program) (f:FuncId) (fn:Func) (s:ChangeSpec) (c:OpenClaim)=>(P.make==some c.make)) prog 3 f3 Rows.fnNeckStaySpec Rows.fnNeckStayRow=true:=by kernel_rfl
def rM:(λ(P:Program) (f:FuncId) (fn:Func) (s:ChangeSpec) (c:OpenClaim)=>(c.kinds==(if c.domain.isEmpty then[] else fn.params.toList.map λt=>match P.underlying t with|some (.int k)=>some k|_=>none))) prog 3 f3 Rows.fnNeckStaySpec Rows.fnNeckStayRow=true:=by kernel_rfl
def rN:(λ(P:Program) (f:FuncId) (fn:Func) (s:ChangeSpec) (c:OpenClaim)=>(c.pinned==c.pinnedBy)) prog 3 f3 Rows.fnNeckStaySpec Rows.fnNeckStayRow=true:=by kernel_rfl
def rO:(λ(P:Program) (f:FuncId) (fn:Func) (s:ChangeSpec) (c:OpenClaim)=>(c.veiled==(fn.params.toList++s.plain.varTypes P++fn.resultTypes.toList).any (P.veiledRec ·))) prog 3 f3 Rows.fnNeckStaySpec Rows.fnNeckStayRow=true:=by kernel_rfl
def rP:(λ(P:Program) (f:FuncId) (fn:Func) (s:ChangeSpec) (c:OpenClaim)=>c.veiledFits P fn.params.toList (fn.params.toList++s.plain.varTypes P++fn.resultTypes.toList)) prog 3 f3 Rows.fnNeckStaySpec Rows.fnNeckStayRow=true:=by kernel_rfl
def closed:joinedFacts prog 3 f3 Rows.fnNeckStaySpec Rows.fnNeckStayRow=true:=and_true (and_true (and_true (and_true (and_true (and_true (and_true (and_true (and_true (and_true (and_true (and_true (and_true (and_true (and_true (and_true (and_true (and_true (and_true (and_true (and_true (and_true (and_true (and_true (and_true (and_true (and_true (and_true (and_true (and_true (and_true (ra) rb) rf) rh) ri) rj) rk) rl) rm) rn) rq) rr) ru) rv) ry) rz) rA) rB) rC) rD) rE) rF) rG) rH) rI) rJ) rK) rL) rM) rN) rO) rP
def own:ownKnob prog.godebug=none:=by kernel_rfl
def laidOut:laidOutB prog=true:=by kernel_rfl
def rQ (H:Type) (enc:TypeId×Value->H) (W:World) (base:Nat) (args:Array Value) (ds gs:List (DataW H)) (before:List MemPlace)
 (g8:∀(j:Nat) t v,f3.params[j]?=some t->args[j]?=some v->Value.okWide prog W .any base t v)
 (hW:DataW.Whole enc prog f3.params.toList Rows.fnNeckStaySpec.vars false W args.toList ds gs before):
 Calls prog 3 args W λe W'=>∃v,e=.returned v/\Rows.fnNeckStaySpec.post enc prog f3 false true false false W args v W':=by
 have kd:=hW;obtain⟨p,q,mK,hV,rfl,BN,eW⟩:=hW;have hA:DataW.TrodAll enc prog W 0 (λ_=>true) true f3.params.toList args.toList ds p:=mK;rw[params3] at hA g8;obtain⟨v0,BO,d0,BP,p0,q0,jd,rfl,rfl,h0,r0⟩:=trodAll_cons hA;obtain⟨rfl,rfl,rfl⟩:=trodAll_nil r0;obtain rfl:args=#[v0]:=by cases args;simp_all
 obtain⟨rfl,rfl⟩:=trodVars_none hV;clear mK;simp only[List.append_nil] at kd;have nj:Value.okWide prog W .any base 22 v0:=g8 0 22 v0 rfl rfl;obtain⟨x0,rR,f0⟩:=zT (base:=0) zU (zV (show prog.underlying 22=some (.slice 5) by kernel_rfl) nj) h0;have walk:=(Yw x0).2 (nU W) W #[v0] (zW W) ⟨rR,trivial⟩;refine walk.mono λe W' he=>?_;cases e with
 |panicked _=>exact he.elim
 |outgrown=>exact he.elim
 |returned v=>
  obtain⟨I',bj,hv⟩:=he
  have hv:v=.bool true:=hv
  subst hv
  have bz:∀x∈(p0),x.block<W.heap.size:=λx hx=>kd.lt x hx
  refine⟨_,rfl,zX (pa:=p0) (pv:=[]) kd (λ_ _ _=>trodAll_cons_mk (shut_bool Tryz.underlying4 _) trodAll_mk0) (λsp rS=>?_) (λ_ _=>rfl) bn bj.below (ok_one aO rfl (okWide_bool_mk Tryz.underlying4 _))⟩
  have t0:=WideElems.Trod_stays laidOut aO (of_decide_eq_true aO) h0 (λx hx=>bj.below.same (bz x hx)) rS
  have aM:=(trodAll_cons_mk t0 (trodAll_mk0 (H:=H) (enc:=enc) (P:=prog) (w:=W') (base:=0) (spare:=sp) (held:=true)))
  simp only[List.append_nil] at aM
  exact aM
noncomputable def ke (os:Os):World:=World.holding prog os ⟨#[],#[],[]⟩
def rT (os:Os):laidMet prog Rows.fnNeckStayRow.laid ((ke os).forCall (λ_ _=>0) ⟨#[],#[.slice none 0 0],[]⟩).memory:=laidMet_of_run' 8 aO aO
def reads (os:Os) {H:Type} (enc:TypeId×Value->H):∃places,DataW.whole enc prog ((ke os).forCall (λ_ _=>0) ⟨#[],#[.slice none 0 0],[]⟩).memory f3.params.toList Rows.fnNeckStaySpec.vars false #[Value.slice none 0 0].toList 8=some ([.nil],[],places):=
 ⟨[],by kernel_rfl⟩
set_option maxRecDepth 100000 in
def lifted (os:Os) (started:os.Started) (H:Type) (enc:TypeId×Value->H) (F:Stop.Interp):
 ReturnsInHanded {} checked os 3 .any ((OpenSpec.ofChange Rows.fnNeckStaySpec).preRow enc prog f3 Rows.fnNeckStayRow.domain false Rows.fnNeckStayRow.laid) (((OpenSpec.ofChange Rows.fnNeckStaySpec).at F).post enc prog f3 false true false false):=by
 obtain⟨places,hx⟩:=reads os enc;refine returnsInHanded_of_row (C:=checked) (s:=OpenSpec.ofChange Rows.fnNeckStaySpec) own started aO func3
  (witness_row_at (enc:=enc) (C:=checked) false (ke os) #[.slice none 0 0] rfl aO aO aO
    (OpenSpec.preRow_of_cond 8 hx aO (λk hk=>by cases hk) aO (rT os))) ?_
 intro W base args ds gs before g8 hW _ _ _ hL _ _;exact rQ H enc W base args ds gs before g8 hW
end FrFnNeckStay
theorem fnNeckStay_holds:Rows.FnNeckStaySaid:=
 OpenClaim.holds_of_cond 3 f3 rfl rfl rfl rfl rfl rfl rfl ⟨rfl,rfl,rfl,rfl,rfl⟩ rfl rfl rfl rfl rfl aO func3 FrFnNeckStay.closed
  (of_decide_eq_true aO) (by unfold Func.isWrapper;first|(rw[if_pos (by decide+kernel)];kernel_rfl)|(rw[if_neg (by decide+kernel)];exact⟨rfl,rfl⟩))
  (λos started H enc _ F=>by rw[OpenClaim.pre_eq_preRow];exact FrFnNeckStay.lifted os started H enc F)
end Go.Proofs.YtldbakcpcfdlaaaGreat
