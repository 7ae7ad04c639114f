/- FnExactNeckDo: for every run and every event the program's NeckDo returns what the reference's returns, leaves its arguments as they were, and shares no memory with them or with another result. Conditions: none. -/
import Derived.Test.YtldbakcpcfdlaaaGreatRows
import Derived.JoinedCond
import Derived.Test.YtldbakcpcfdlaaaGreatQ00
set_option linter.all false
set_option maxRecDepth 100000
set_option maxHeartbeats 4000000
namespace Go.Proofs.YtldbakcpcfdlaaaGreat
open Go Go.RowKit Go.Proofs.Tryz
attribute [local irreducible] wpList Code.wp Ok
open Go.ChangeShapes Go.WideShapes Go.ChangeAt
namespace FrFnExactNeckDo
def and_true {x y:Bool} (h:x=true) (k:y=true):(x&&y)=true:=by rw[h,k];rfl
def xA:(λ(P:Program) (f:FuncId) (fn:Func) (s:ChangeSpec) (c:OpenClaim)=>c.wf (OpenSpec.ofChange s)) prog 11 f11 Rows.fnExactNeckDoSpec Rows.fnExactNeckDoRow=true:=by kernel_rfl
def xB:(λ(P:Program) (f:FuncId) (fn:Func) (s:ChangeSpec) (c:OpenClaim)=>laidOutB P) prog 11 f11 Rows.fnExactNeckDoSpec Rows.fnExactNeckDoRow=true:=by kernel_rfl
def xC:(λ(P:Program) (f:FuncId) (fn:Func) (s:ChangeSpec) (c:OpenClaim)=>mapsRowed P) prog 11 f11 Rows.fnExactNeckDoSpec Rows.fnExactNeckDoRow=true:=by kernel_rfl
def xD:(λ(P:Program) (f:FuncId) (fn:Func) (s:ChangeSpec) (c:OpenClaim)=>fn.params.all (P.readableRec ·)) prog 11 f11 Rows.fnExactNeckDoSpec Rows.fnExactNeckDoRow=true:=by kernel_rfl
def xE:(λ(P:Program) (f:FuncId) (fn:Func) (s:ChangeSpec) (c:OpenClaim)=>namedTie P c.named s.vars) prog 11 f11 Rows.fnExactNeckDoSpec Rows.fnExactNeckDoRow=true:=by kernel_rfl
def xF:(λ(P:Program) (f:FuncId) (fn:Func) (s:ChangeSpec) (c:OpenClaim)=>(c.stops==[])) prog 11 f11 Rows.fnExactNeckDoSpec Rows.fnExactNeckDoRow=true:=by kernel_rfl
def xG:(λ(P:Program) (f:FuncId) (fn:Func) (s:ChangeSpec) (c:OpenClaim)=>(P.stops==[])) prog 11 f11 Rows.fnExactNeckDoSpec Rows.fnExactNeckDoRow=true:=by kernel_rfl
def xH:(λ(P:Program) (f:FuncId) (fn:Func) (s:ChangeSpec) (c:OpenClaim)=>(c.knobs==[])) prog 11 f11 Rows.fnExactNeckDoSpec Rows.fnExactNeckDoRow=true:=by kernel_rfl
def xI:(λ(P:Program) (f:FuncId) (fn:Func) (s:ChangeSpec) (c:OpenClaim)=>(P.stopKnobs==[])) prog 11 f11 Rows.fnExactNeckDoSpec Rows.fnExactNeckDoRow=true:=by kernel_rfl
def xJ:(λ(P:Program) (f:FuncId) (fn:Func) (s:ChangeSpec) (c:OpenClaim)=>(c.inPlace==P.inPlace f)) prog 11 f11 Rows.fnExactNeckDoSpec Rows.fnExactNeckDoRow=true:=by kernel_rfl
def xK:(λ(P:Program) (f:FuncId) (fn:Func) (s:ChangeSpec) (c:OpenClaim)=>(c.unfollowed==P.unfollowed f)) prog 11 f11 Rows.fnExactNeckDoSpec Rows.fnExactNeckDoRow=true:=by kernel_rfl
def xL:(λ(P:Program) (f:FuncId) (fn:Func) (s:ChangeSpec) (c:OpenClaim)=>(c.recurses==P.recurses f)) prog 11 f11 Rows.fnExactNeckDoSpec Rows.fnExactNeckDoRow=true:=by kernel_rfl
def xM:(λ(P:Program) (f:FuncId) (fn:Func) (s:ChangeSpec) (c:OpenClaim)=>(c.named==P.varsNamed f)) prog 11 f11 Rows.fnExactNeckDoSpec Rows.fnExactNeckDoRow=true:=by kernel_rfl
def xN:(λ(P:Program) (f:FuncId) (fn:Func) (s:ChangeSpec) (c:OpenClaim)=>(c.maps==(fn.params.toList++s.plain.varTypes P).any (P.mapsRec ·))) prog 11 f11 Rows.fnExactNeckDoSpec Rows.fnExactNeckDoRow=true:=by kernel_rfl
def xO:(λ(P:Program) (f:FuncId) (fn:Func) (s:ChangeSpec) (c:OpenClaim)=>(c.ifaces==(fn.params.toList++s.plain.varTypes P).any (P.ifacesRec ·))) prog 11 f11 Rows.fnExactNeckDoSpec Rows.fnExactNeckDoRow=true:=by kernel_rfl
def xP:(λ(P:Program) (f:FuncId) (fn:Func) (s:ChangeSpec) (c:OpenClaim)=>(c.mapsOut==P.mapsAmong fn.resultTypes.toList)) prog 11 f11 Rows.fnExactNeckDoSpec Rows.fnExactNeckDoRow=true:=by kernel_rfl
def xQ:(λ(P:Program) (f:FuncId) (fn:Func) (s:ChangeSpec) (c:OpenClaim)=>(c.loops==(fn.params.toList++s.plain.varTypes P).any (P.loopsFrom ·))) prog 11 f11 Rows.fnExactNeckDoSpec Rows.fnExactNeckDoRow=true:=by kernel_rfl
def xR:(λ(P:Program) (f:FuncId) (fn:Func) (s:ChangeSpec) (c:OpenClaim)=>(c.wideKeys==(fn.params.toList++s.plain.varTypes P++fn.resultTypes.toList).any (P.wideKeysFrom ·))) prog 11 f11 Rows.fnExactNeckDoSpec Rows.fnExactNeckDoRow=true:=by kernel_rfl
def xS:(λ(P:Program) (f:FuncId) (fn:Func) (s:ChangeSpec) (c:OpenClaim)=>s.vars.all (P.varReadable ·)) prog 11 f11 Rows.fnExactNeckDoSpec Rows.fnExactNeckDoRow=true:=by kernel_rfl
def xT:(λ(P:Program) (f:FuncId) (fn:Func) (s:ChangeSpec) (c:OpenClaim)=>fn.resultTypes.all (λt=>P.readableRec t&&decide (t<P.types.size))) prog 11 f11 Rows.fnExactNeckDoSpec Rows.fnExactNeckDoRow=true:=by kernel_rfl
def xU:(λ(P:Program) (f:FuncId) (fn:Func) (s:ChangeSpec) (c:OpenClaim)=>(c.ifacesOut==fn.resultTypes.toList.any (P.ifacesRec ·))) prog 11 f11 Rows.fnExactNeckDoSpec Rows.fnExactNeckDoRow=true:=by kernel_rfl
def xV:(λ(P:Program) (f:FuncId) (fn:Func) (s:ChangeSpec) (c:OpenClaim)=>(c.loopsOut==fn.resultTypes.toList.any (P.loopsFrom ·))) prog 11 f11 Rows.fnExactNeckDoSpec Rows.fnExactNeckDoRow=true:=by kernel_rfl
def xW:(λ(P:Program) (f:FuncId) (fn:Func) (s:ChangeSpec) (c:OpenClaim)=>(c.plainKeys==P.plainKeys)) prog 11 f11 Rows.fnExactNeckDoSpec Rows.fnExactNeckDoRow=true:=by kernel_rfl
def xX:(λ(P:Program) (f:FuncId) (fn:Func) (s:ChangeSpec) (c:OpenClaim)=>c.shortTexts.isNone) prog 11 f11 Rows.fnExactNeckDoSpec Rows.fnExactNeckDoRow=true:=by kernel_rfl
def xY:(λ(P:Program) (f:FuncId) (fn:Func) (s:ChangeSpec) (c:OpenClaim)=>P.stopsHeard) prog 11 f11 Rows.fnExactNeckDoSpec Rows.fnExactNeckDoRow=true:=by kernel_rfl
def xZ:(λ(P:Program) (f:FuncId) (fn:Func) (s:ChangeSpec) (c:OpenClaim)=>P.mayEnter) prog 11 f11 Rows.fnExactNeckDoSpec Rows.fnExactNeckDoRow=true:=by kernel_rfl
def x3:(λ(P:Program) (f:FuncId) (fn:Func) (s:ChangeSpec) (c:OpenClaim)=>(c.lifted==P.liftsFinal)) prog 11 f11 Rows.fnExactNeckDoSpec Rows.fnExactNeckDoRow=true:=by kernel_rfl
def x4:(λ(P:Program) (f:FuncId) (fn:Func) (s:ChangeSpec) (c:OpenClaim)=>(P.make==some c.make)) prog 11 f11 Rows.fnExactNeckDoSpec Rows.fnExactNeckDoRow=true:=by kernel_rfl
def x5:(λ(P:Program) (f:FuncId) (fn:Func) (s:ChangeSpec) (c:OpenClaim)=>(c.kinds==(if c.domain.isEmpty then[] else fn.params.toList.map λt=>match P.underlying t with|some (.int k)=>some k|_=>none))) prog 11 f11 Rows.fnExactNeckDoSpec Rows.fnExactNeckDoRow=true:=by kernel_rfl
def x6:(λ(P:Program) (f:FuncId) (fn:Func) (s:ChangeSpec) (c:OpenClaim)=>(c.pinned==c.pinnedBy)) prog 11 f11 Rows.fnExactNeckDoSpec Rows.fnExactNeckDoRow=true:=by kernel_rfl
def x7:(λ(P:Program) (f:FuncId) (fn:Func) (s:ChangeSpec) (c:OpenClaim)=>(c.veiled==(fn.params.toList++s.plain.varTypes P++fn.resultTypes.toList).any (P.veiledRec ·))) prog 11 f11 Rows.fnExactNeckDoSpec Rows.fnExactNeckDoRow=true:=by kernel_rfl
def x8:(λ(P:Program) (f:FuncId) (fn:Func) (s:ChangeSpec) (c:OpenClaim)=>c.veiledFits P fn.params.toList (fn.params.toList++s.plain.varTypes P++fn.resultTypes.toList)) prog 11 f11 Rows.fnExactNeckDoSpec Rows.fnExactNeckDoRow=true:=by kernel_rfl
def closed:joinedFacts prog 11 f11 Rows.fnExactNeckDoSpec Rows.fnExactNeckDoRow=true:=and_true (and_true (and_true (and_true (and_true (and_true (and_true (and_true (and_true (and_true (and_true (and_true (and_true (and_true (and_true (and_true (and_true (and_true (and_true (and_true (and_true (and_true (and_true (and_true (and_true (and_true (and_true (and_true (and_true (and_true (and_true (xA) xB) xC) xD) xE) xF) xG) xH) xI) xJ) xK) xL) xM) xN) xO) xP) xQ) xR) xS) xT) xU) xV) xW) xX) xY) xZ) x3) x4) x5) x6) x7) x8
def own:ownKnob prog.godebug=none:=by kernel_rfl
def laidOut:laidOutB prog=true:=by kernel_rfl
def x9 (H:Type) (enc:TypeId×Value->H) (W:World) (base:Nat) (args:Array Value) (ds gs:List (DataW H)) (before:List MemPlace)
 (jH:∀(j:Nat) t v,f11.params[j]?=some t->args[j]?=some v->Value.okWide prog W .any base t v)
 (hW:DataW.Whole enc prog f11.params.toList Rows.fnExactNeckDoSpec.vars false W args.toList ds gs before):
 Calls prog 11 args W λe W'=>∃v,e=.returned v/\Rows.fnExactNeckDoSpec.post enc prog f11 false true false false W args v W':=by
 have oT:=hW;obtain⟨p,q,sC,hV,rfl,IE,dG⟩:=hW;have hA:DataW.TrodAll enc prog W 0 (λ_=>true) true f11.params.toList args.toList ds p:=sC;rw[params11] at hA jH;obtain⟨v0,IF,d0,IG,p0,q0,ij,rfl,rfl,h0,r0⟩:=trodAll_cons hA;obtain⟨v1,Qk,d1,Ql,p1,q1,rfl,rfl,rfl,h1,r1⟩:=trodAll_cons r0;obtain⟨rfl,rfl,rfl⟩:=trodAll_nil r1;obtain rfl:args=#[v0,v1]:=by cases args;simp_all
 obtain⟨rfl,rfl⟩:=trodVars_none hV;clear sC;simp only[List.append_nil] at oT;have pY:Value.okWide prog W .any base 70 v0:=jH 0 70 v0 rfl rfl;obtain⟨x0,ya,f0⟩:=DE (show prog.underlying 70=some (.struct (prog.fieldsOf 70)) by kernel_rfl) IH pY h0;have DF:Value.okWide prog W .any base 76 v1:=jH 1 76 v1 rfl rfl;obtain⟨x1,tT,f1⟩:=DE (show prog.underlying 76=some (.struct (prog.fieldsOf 76)) by kernel_rfl) IJ DF h1;have walk:=(Qo x0 x1 f0).2 (mB W) W #[v0,v1] (DG W) ⟨ya,⟨tT,trivial⟩⟩;refine walk.mono λe W' he=>?_;cases e with
 |panicked _=>exact he.elim
 |outgrown=>exact he.elim
 |returned v=>
  obtain⟨I',bJ,hv⟩:=he
  have hv:v=.bool true:=hv
  subst hv
  have bW:∀x∈(p0++p1),x.block<W.heap.size:=λx hx=>oT.lt x hx
  refine⟨_,rfl,DH (pa:=p0++p1) (pv:=[]) oT (λ_ _ _=>trodAll_cons_mk (shut_bool Tryz.underlying4 _) trodAll_mk0) (λsp oV=>?_) (λ_ _=>rfl) be bJ.below (ok_one aq rfl (okWide_bool_mk Tryz.underlying4 _))⟩
  have t0:=WideElems.Trod_stays laidOut aq (of_decide_eq_true aq) h0 (λx hx=>bJ.below.same (bW x (List.mem_append_left _ hx))) (λx hx=>oV x (List.mem_append_left _ hx))
  have t1:=WideElems.Trod_stays laidOut aq (of_decide_eq_true aq) h1 (λx hx=>bJ.below.same (bW x (List.mem_append_right _ hx))) (λx hx=>oV x (List.mem_append_right _ hx))
  have aT:=(trodAll_cons_mk t0 (trodAll_cons_mk t1 (trodAll_mk0 (H:=H) (enc:=enc) (P:=prog) (w:=W') (base:=0) (spare:=sp) (held:=true))))
  simp only[List.append_nil] at aT
  exact aT
noncomputable def oW (os:Os):World:=World.holding prog os ⟨#[],#[],[]⟩
def yb (os:Os):laidMet prog Rows.fnExactNeckDoRow.laid ((oW os).forCall (λ_ _=>0) ⟨#[],#[.agg #[.int .i64 0,.slice none 0 0,.slice none 0 0,.slice none 0 0,.slice none 0 0],.agg #[.int .i64 0,.int .i64 0,.int .i64 0,.int .i64 0,.int .i64 0,.int .i64 0,.int .i64 0,.int .i64 0,.int .i64 0,.int .i64 0,.int .i64 0]],[]⟩).memory:=laidMet_of_run' 8 aq aq
def reads (os:Os) {H:Type} (enc:TypeId×Value->H):∃places,DataW.whole enc prog ((oW os).forCall (λ_ _=>0) ⟨#[],#[.agg #[.int .i64 0,.slice none 0 0,.slice none 0 0,.slice none 0 0,.slice none 0 0],.agg #[.int .i64 0,.int .i64 0,.int .i64 0,.int .i64 0,.int .i64 0,.int .i64 0,.int .i64 0,.int .i64 0,.int .i64 0,.int .i64 0,.int .i64 0]],[]⟩).memory f11.params.toList Rows.fnExactNeckDoSpec.vars false #[Value.agg #[.int .i64 0,.slice none 0 0,.slice none 0 0,.slice none 0 0,.slice none 0 0],Value.agg #[.int .i64 0,.int .i64 0,.int .i64 0,.int .i64 0,.int .i64 0,.int .i64 0,.int .i64 0,.int .i64 0,.int .i64 0,.int .i64 0,.int .i64 0]].toList 8=some ([.agg [.lit (.int .i64 0),.nil,.nil,.nil,.nil],.agg [.lit (.int .i64 0),.lit (.int .i64 0),.lit (.int .i64 0),.lit (.int .i64 0),.lit (.int .i64 0),.lit (.int .i64 0),.lit (.int .i64 0),.lit (.int .i64 0),.lit (.int .i64 0),.lit (.int .i64 0),.lit (.int .i64 0)]],[],places):=
 ⟨[],by kernel_rfl⟩
set_option maxRecDepth 100000 in
def lifted (os:Os) (started:os.Started) (H:Type) (enc:TypeId×Value->H) (F:Stop.Interp):
 ReturnsInHanded {} checked os 11 .any ((OpenSpec.ofChange Rows.fnExactNeckDoSpec).preRow enc prog f11 Rows.fnExactNeckDoRow.domain false Rows.fnExactNeckDoRow.laid) (((OpenSpec.ofChange Rows.fnExactNeckDoSpec).at F).post enc prog f11 false true false false):=by
 obtain⟨places,hx⟩:=reads os enc;refine returnsInHanded_of_row (C:=checked) (s:=OpenSpec.ofChange Rows.fnExactNeckDoSpec) own started aq func11
  (witness_row_at (enc:=enc) (C:=checked) false (oW os) #[.agg #[.int .i64 0,.slice none 0 0,.slice none 0 0,.slice none 0 0,.slice none 0 0],.agg #[.int .i64 0,.int .i64 0,.int .i64 0,.int .i64 0,.int .i64 0,.int .i64 0,.int .i64 0,.int .i64 0,.int .i64 0,.int .i64 0,.int .i64 0]] rfl aq aq aq
    (OpenSpec.preRow_of_cond 8 hx aq (λk hk=>by cases hk) aq (yb os))) ?_
 intro W base args ds gs before jH hW _ _ _ hL _ _;exact x9 H enc W base args ds gs before jH hW
end FrFnExactNeckDo
theorem fnExactNeckDo_holds:Rows.FnExactNeckDoSaid:=
 OpenClaim.holds_of_cond 11 f11 rfl rfl rfl rfl rfl rfl rfl ⟨rfl,rfl,rfl,rfl,rfl⟩ rfl rfl rfl rfl rfl aq func11 FrFnExactNeckDo.closed
  (of_decide_eq_true aq) (by unfold Func.isWrapper;first|(rw[if_pos (by decide+kernel)];kernel_rfl)|(rw[if_neg (by decide+kernel)];exact⟨rfl,rfl⟩))
  (λos started H enc _ F=>by rw[OpenClaim.pre_eq_preRow];exact FrFnExactNeckDo.lifted os started H enc F)
end Go.Proofs.YtldbakcpcfdlaaaGreat
