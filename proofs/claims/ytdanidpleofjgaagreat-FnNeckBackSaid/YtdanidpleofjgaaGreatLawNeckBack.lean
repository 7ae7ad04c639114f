/- FnNeckBack: who falls in a calm and rises loses nothing. Conditions: none. -/
import Derived.Test.YtdanidpleofjgaaGreatRows
import Derived.JoinedCond
import Derived.Test.YtdanidpleofjgaaGreatQ01
set_option linter.all false
set_option maxRecDepth 100000
set_option maxHeartbeats 4000000
namespace Go.Proofs.YtdanidpleofjgaaGreat
open Go Go.RowKit Go.Proofs.Tryz
attribute [local irreducible] wpList Code.wp Ok
open Go.ChangeShapes Go.WideShapes Go.ChangeAt
namespace FrFnNeckBack
def and_true {x y:Bool} (h:x=true) (k:y=true):(x&&y)=true:=by rw[h,k];rfl
def qe:(λ(P:Program) (f:FuncId) (fn:Func) (s:ChangeSpec) (c:OpenClaim)=>c.wf (OpenSpec.ofChange s)) prog 14 f14 Rows.fnNeckBackSpec Rows.fnNeckBackRow=true:=by kernel_rfl
def qf:(λ(P:Program) (f:FuncId) (fn:Func) (s:ChangeSpec) (c:OpenClaim)=>laidOutB P) prog 14 f14 Rows.fnNeckBackSpec Rows.fnNeckBackRow=true:=by kernel_rfl
def qg:(λ(P:Program) (f:FuncId) (fn:Func) (s:ChangeSpec) (c:OpenClaim)=>mapsRowed P) prog 14 f14 Rows.fnNeckBackSpec Rows.fnNeckBackRow=true:=by kernel_rfl
def qh:(λ(P:Program) (f:FuncId) (fn:Func) (s:ChangeSpec) (c:OpenClaim)=>fn.params.all (P.readableRec ·)) prog 14 f14 Rows.fnNeckBackSpec Rows.fnNeckBackRow=true:=by kernel_rfl
def qi:(λ(P:Program) (f:FuncId) (fn:Func) (s:ChangeSpec) (c:OpenClaim)=>namedTie P c.named s.vars) prog 14 f14 Rows.fnNeckBackSpec Rows.fnNeckBackRow=true:=by kernel_rfl
def qj:(λ(P:Program) (f:FuncId) (fn:Func) (s:ChangeSpec) (c:OpenClaim)=>(c.stops==[])) prog 14 f14 Rows.fnNeckBackSpec Rows.fnNeckBackRow=true:=by kernel_rfl
def qk:(λ(P:Program) (f:FuncId) (fn:Func) (s:ChangeSpec) (c:OpenClaim)=>(P.stops==[])) prog 14 f14 Rows.fnNeckBackSpec Rows.fnNeckBackRow=true:=by kernel_rfl
def ql:(λ(P:Program) (f:FuncId) (fn:Func) (s:ChangeSpec) (c:OpenClaim)=>(c.knobs==[])) prog 14 f14 Rows.fnNeckBackSpec Rows.fnNeckBackRow=true:=by kernel_rfl
def qm:(λ(P:Program) (f:FuncId) (fn:Func) (s:ChangeSpec) (c:OpenClaim)=>(P.stopKnobs==[])) prog 14 f14 Rows.fnNeckBackSpec Rows.fnNeckBackRow=true:=by kernel_rfl
def qn:(λ(P:Program) (f:FuncId) (fn:Func) (s:ChangeSpec) (c:OpenClaim)=>(c.inPlace==P.inPlace f)) prog 14 f14 Rows.fnNeckBackSpec Rows.fnNeckBackRow=true:=by kernel_rfl
def qp:(λ(P:Program) (f:FuncId) (fn:Func) (s:ChangeSpec) (c:OpenClaim)=>(c.unfollowed==P.unfollowed f)) prog 14 f14 Rows.fnNeckBackSpec Rows.fnNeckBackRow=true:=by kernel_rfl
def qt:(λ(P:Program) (f:FuncId) (fn:Func) (s:ChangeSpec) (c:OpenClaim)=>(c.recurses==P.recurses f)) prog 14 f14 Rows.fnNeckBackSpec Rows.fnNeckBackRow=true:=by kernel_rfl
def qu:(λ(P:Program) (f:FuncId) (fn:Func) (s:ChangeSpec) (c:OpenClaim)=>(c.named==P.varsNamed f)) prog 14 f14 Rows.fnNeckBackSpec Rows.fnNeckBackRow=true:=by kernel_rfl
def qv:(λ(P:Program) (f:FuncId) (fn:Func) (s:ChangeSpec) (c:OpenClaim)=>(c.maps==(fn.params.toList++s.plain.varTypes P).any (P.mapsRec ·))) prog 14 f14 Rows.fnNeckBackSpec Rows.fnNeckBackRow=true:=by kernel_rfl
def qw:(λ(P:Program) (f:FuncId) (fn:Func) (s:ChangeSpec) (c:OpenClaim)=>(c.ifaces==(fn.params.toList++s.plain.varTypes P).any (P.ifacesRec ·))) prog 14 f14 Rows.fnNeckBackSpec Rows.fnNeckBackRow=true:=by kernel_rfl
def qx:(λ(P:Program) (f:FuncId) (fn:Func) (s:ChangeSpec) (c:OpenClaim)=>(c.mapsOut==P.mapsAmong fn.resultTypes.toList)) prog 14 f14 Rows.fnNeckBackSpec Rows.fnNeckBackRow=true:=by kernel_rfl
def qz:(λ(P:Program) (f:FuncId) (fn:Func) (s:ChangeSpec) (c:OpenClaim)=>(c.loops==(fn.params.toList++s.plain.varTypes P).any (P.loopsFrom ·))) prog 14 f14 Rows.fnNeckBackSpec Rows.fnNeckBackRow=true:=by kernel_rfl
def qA:(λ(P:Program) (f:FuncId) (fn:Func) (s:ChangeSpec) (c:OpenClaim)=>(c.wideKeys==(fn.params.toList++s.plain.varTypes P++fn.resultTypes.toList).any (P.wideKeysFrom ·))) prog 14 f14 Rows.fnNeckBackSpec Rows.fnNeckBackRow=true:=by kernel_rfl
def qB:(λ(P:Program) (f:FuncId) (fn:Func) (s:ChangeSpec) (c:OpenClaim)=>s.vars.all (P.varReadable ·)) prog 14 f14 Rows.fnNeckBackSpec Rows.fnNeckBackRow=true:=by kernel_rfl
def qC:(λ(P:Program) (f:FuncId) (fn:Func) (s:ChangeSpec) (c:OpenClaim)=>fn.resultTypes.all (λt=>P.readableRec t&&decide (t<P.types.size))) prog 14 f14 Rows.fnNeckBackSpec Rows.fnNeckBackRow=true:=by kernel_rfl
def qD:(λ(P:Program) (f:FuncId) (fn:Func) (s:ChangeSpec) (c:OpenClaim)=>(c.ifacesOut==fn.resultTypes.toList.any (P.ifacesRec ·))) prog 14 f14 Rows.fnNeckBackSpec Rows.fnNeckBackRow=true:=by kernel_rfl
def qE:(λ(P:Program) (f:FuncId) (fn:Func) (s:ChangeSpec) (c:OpenClaim)=>(c.loopsOut==fn.resultTypes.toList.any (P.loopsFrom ·))) prog 14 f14 Rows.fnNeckBackSpec Rows.fnNeckBackRow=true:=by kernel_rfl
def qF:(λ(P:Program) (f:FuncId) (fn:Func) (s:ChangeSpec) (c:OpenClaim)=>(c.plainKeys==P.plainKeys)) prog 14 f14 Rows.fnNeckBackSpec Rows.fnNeckBackRow=true:=by kernel_rfl
def qG:(λ(P:Program) (f:FuncId) (fn:Func) (s:ChangeSpec) (c:OpenClaim)=>c.shortTexts.isNone) prog 14 f14 Rows.fnNeckBackSpec Rows.fnNeckBackRow=true:=by kernel_rfl
def qH:(λ(P:Program) (f:FuncId) (fn:Func) (s:ChangeSpec) (c:OpenClaim)=>P.stopsHeard) prog 14 f14 Rows.fnNeckBackSpec Rows.fnNeckBackRow=true:=by kernel_rfl
def qI:(λ(P:Program) (f:FuncId) (fn:Func) (s:ChangeSpec) (c:OpenClaim)=>P.mayEnter) prog 14 f14 Rows.fnNeckBackSpec Rows.fnNeckBackRow=true:=by kernel_rfl
def qJ:(λ(P:Program) (f:FuncId) (fn:Func) (s:ChangeSpec) (c:OpenClaim)=>(c.lifted==P.liftsFinal)) prog 14 f14 Rows.fnNeckBackSpec Rows.fnNeckBackRow=true:=by kernel_rfl
def qK:(λ(P:Program) (f:FuncId) (fn:Func) (s:ChangeSpec) (c:OpenClaim)=>(P.make==some c.make)) prog 14 f14 Rows.fnNeckBackSpec Rows.fnNeckBackRow=true:=by kernel_rfl
def qL:(λ(P:Program) (f:FuncId) (fn:Func) (s:ChangeSpec) (c:OpenClaim)=>(c.kinds==(if c.domain.isEmpty then[] else fn.params.toList.map λt=>match P.underlying t with|some (.int k)=>some k|_=>none))) prog 14 f14 Rows.fnNeckBackSpec Rows.fnNeckBackRow=true:=by kernel_rfl
def qM:(λ(P:Program) (f:FuncId) (fn:Func) (s:ChangeSpec) (c:OpenClaim)=>(c.pinned==c.pinnedBy)) prog 14 f14 Rows.fnNeckBackSpec Rows.fnNeckBackRow=true:=by kernel_rfl
def qN:(λ(P:Program) (f:FuncId) (fn:Func) (s:ChangeSpec) (c:OpenClaim)=>(c.veiled==(fn.params.toList++s.plain.varTypes P++fn.resultTypes.toList).any (P.veiledRec ·))) prog 14 f14 Rows.fnNeckBackSpec Rows.fnNeckBackRow=true:=by kernel_rfl
def qO:(λ(P:Program) (f:FuncId) (fn:Func) (s:ChangeSpec) (c:OpenClaim)=>c.veiledFits P fn.params.toList (fn.params.toList++s.plain.varTypes P++fn.resultTypes.toList)) prog 14 f14 Rows.fnNeckBackSpec Rows.fnNeckBackRow=true:=by kernel_rfl
def closed:joinedFacts prog 14 f14 Rows.fnNeckBackSpec Rows.fnNeckBackRow=true:=and_true (and_true (and_true (and_true (and_true (and_true (and_true (and_true (and_true (and_true (and_true (and_true (and_true (and_true (and_true (and_true (and_true (and_true (and_true (and_true (and_true (and_true (and_true (and_true (and_true (and_true (and_true (and_true (and_true (and_true (and_true (qe) qf) qg) qh) qi) qj) qk) ql) qm) qn) qp) qt) qu) qv) qw) qx) qz) qA) qB) qC) qD) qE) qF) qG) qH) qI) qJ) qK) qL) qM) qN) qO
def own:ownKnob prog.godebug=none:=by kernel_rfl
def laidOut:laidOutB prog=true:=by kernel_rfl
def qP (H:Type) (enc:TypeId×Value->H) (W:World) (base:Nat) (args:Array Value) (ds gs:List (DataW H)) (before:List MemPlace)
 (gC:∀(j:Nat) t v,f14.params[j]?=some t->args[j]?=some v->Value.okWide prog W .any base t v)
 (hW:DataW.Whole enc prog f14.params.toList Rows.fnNeckBackSpec.vars false W args.toList ds gs before):
 Calls prog 14 args W λe W'=>∃v,e=.returned v/\Rows.fnNeckBackSpec.post enc prog f14 false true false false W args v W':=by
 have jU:=hW;obtain⟨p,q,mf,hV,rfl,As,cR⟩:=hW;have hA:DataW.TrodAll enc prog W 0 (λ_=>true) true f14.params.toList args.toList ds p:=mf;rw[params14] at hA gC;obtain⟨v0,Au,d0,Av,p0,q0,iN,rfl,rfl,h0,r0⟩:=trodAll_cons hA;obtain⟨rfl,rfl,rfl⟩:=trodAll_nil r0;obtain rfl:args=#[v0]:=by cases args;simp_all
 obtain⟨rfl,rfl⟩:=trodVars_none hV;clear mf;simp only[List.append_nil] at jU;have mG:Value.okWide prog W .any base 22 v0:=gC 0 22 v0 rfl rfl;obtain⟨x0,qQ,f0⟩:=wu (base:=0) wv (wx (show prog.underlying 22=some (.slice 5) by kernel_rfl) mG) h0;have walk:=(VK x0).2 (nd W) W #[v0] (yj W) ⟨qQ,trivial⟩;refine walk.mono λe W' he=>?_;cases e with
 |panicked _=>exact he.elim
 |outgrown=>exact he.elim
 |returned v=>
  obtain⟨I',be,hv⟩:=he
  have hv:v=.bool true:=hv
  subst hv
  have bw:∀x∈(p0),x.block<W.heap.size:=λx hx=>jU.lt x hx
  refine⟨_,rfl,yk (pa:=p0) (pv:=[]) jU (λ_ _ _=>trodAll_cons_mk (shut_bool Tryz.underlying4 _) trodAll_mk0) (λsp pg=>?_) (λ_ _=>rfl) bk be.below (ok_one aS rfl (okWide_bool_mk Tryz.underlying4 _))⟩
  have t0:=WideElems.Trod_stays laidOut aS (of_decide_eq_true aS) h0 (λx hx=>be.below.same (bw x hx)) pg
  have aT:=(trodAll_cons_mk t0 (trodAll_mk0 (H:=H) (enc:=enc) (P:=prog) (w:=W') (base:=0) (spare:=sp) (held:=true)))
  simp only[List.append_nil] at aT
  exact aT
noncomputable def jV (os:Os):World:=World.holding prog os ⟨#[],#[],[]⟩
def qR (os:Os):laidMet prog Rows.fnNeckBackRow.laid ((jV os).forCall (λ_ _=>0) ⟨#[],#[.slice none 0 0],[]⟩).memory:=laidMet_of_run' 8 aS aS
def reads (os:Os) {H:Type} (enc:TypeId×Value->H):∃places,DataW.whole enc prog ((jV os).forCall (λ_ _=>0) ⟨#[],#[.slice none 0 0],[]⟩).memory f14.params.toList Rows.fnNeckBackSpec.vars false #[Value.slice none 0 0].toList 8=some ([.nil],[],places):=
 ⟨[],by kernel_rfl⟩
set_option maxRecDepth 100000 in
def lifted (os:Os) (started:os.Started) (H:Type) (enc:TypeId×Value->H) (F:Stop.Interp):
 ReturnsInHanded {} checked os 14 .any ((OpenSpec.ofChange Rows.fnNeckBackSpec).preRow enc prog f14 Rows.fnNeckBackRow.domain false Rows.fnNeckBackRow.laid) (((OpenSpec.ofChange Rows.fnNeckBackSpec).at F).post enc prog f14 false true false false):=by
 obtain⟨places,hx⟩:=reads os enc;refine returnsInHanded_of_row (C:=checked) (s:=OpenSpec.ofChange Rows.fnNeckBackSpec) own started aS func14
  (witness_row_at (enc:=enc) (C:=checked) false (jV os) #[.slice none 0 0] rfl aS aS aS
    (OpenSpec.preRow_of_cond 8 hx aS (λk hk=>by cases hk) aS (qR os))) ?_
 intro W base args ds gs before gC hW _ _ _ hL _ _;exact qP H enc W base args ds gs before gC hW
end FrFnNeckBack
theorem fnNeckBack_holds:Rows.FnNeckBackSaid:=
 OpenClaim.holds_of_cond 14 f14 rfl rfl rfl rfl rfl rfl rfl ⟨rfl,rfl,rfl,rfl,rfl⟩ rfl rfl rfl rfl rfl aS func14 FrFnNeckBack.closed
  (of_decide_eq_true aS) (by unfold Func.isWrapper;first|(rw[if_pos (by decide+kernel)];kernel_rfl)|(rw[if_neg (by decide+kernel)];exact⟨rfl,rfl⟩))
  (λos started H enc _ F=>by rw[OpenClaim.pre_eq_preRow];exact FrFnNeckBack.lifted os started H enc F)
end Go.Proofs.YtdanidpleofjgaaGreat
