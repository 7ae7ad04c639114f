/- FnNeckCalm: waiting a while, and then a while more, is waiting for both together. Conditions: none. -/
import Derived.Test.YtldbakcpcfdlaaaGreatRows
import Derived.JoinedCond
import Derived.Test.YtldbakcpcfdlaaaGreatA43
set_option linter.all false
set_option maxRecDepth 100000
set_option maxHeartbeats 4000000
namespace Go.Proofs.YtldbakcpcfdlaaaGreat
open Go Go.RowKit Go.Proofs.Tryz
attribute [local irreducible] wpList Code.wp Ok
open Go.ChangeShapes Go.WideShapes Go.ChangeAt
namespace FrFnNeckCalm
def and_true {x y:Bool} (h:x=true) (k:y=true):(x&&y)=true:=by rw[h,k];rfl
def Qa:(λ(P:Program) (f:FuncId) (fn:Func) (s:ChangeSpec) (c:OpenClaim)=>c.wf (OpenSpec.ofChange s)) prog 7 f7 Rows.fnNeckCalmSpec Rows.fnNeckCalmRow=true:=by kernel_rfl
def Qb:(λ(P:Program) (f:FuncId) (fn:Func) (s:ChangeSpec) (c:OpenClaim)=>laidOutB P) prog 7 f7 Rows.fnNeckCalmSpec Rows.fnNeckCalmRow=true:=by kernel_rfl
def Qc:(λ(P:Program) (f:FuncId) (fn:Func) (s:ChangeSpec) (c:OpenClaim)=>mapsRowed P) prog 7 f7 Rows.fnNeckCalmSpec Rows.fnNeckCalmRow=true:=by kernel_rfl
def Qd:(λ(P:Program) (f:FuncId) (fn:Func) (s:ChangeSpec) (c:OpenClaim)=>fn.params.all (P.readableRec ·)) prog 7 f7 Rows.fnNeckCalmSpec Rows.fnNeckCalmRow=true:=by kernel_rfl
def Qe:(λ(P:Program) (f:FuncId) (fn:Func) (s:ChangeSpec) (c:OpenClaim)=>namedTie P c.named s.vars) prog 7 f7 Rows.fnNeckCalmSpec Rows.fnNeckCalmRow=true:=by kernel_rfl
def Qf:(λ(P:Program) (f:FuncId) (fn:Func) (s:ChangeSpec) (c:OpenClaim)=>(c.stops==[])) prog 7 f7 Rows.fnNeckCalmSpec Rows.fnNeckCalmRow=true:=by kernel_rfl
def Qg:(λ(P:Program) (f:FuncId) (fn:Func) (s:ChangeSpec) (c:OpenClaim)=>(P.stops==[])) prog 7 f7 Rows.fnNeckCalmSpec Rows.fnNeckCalmRow=true:=by kernel_rfl
def Qh:(λ(P:Program) (f:FuncId) (fn:Func) (s:ChangeSpec) (c:OpenClaim)=>(c.knobs==[])) prog 7 f7 Rows.fnNeckCalmSpec Rows.fnNeckCalmRow=true:=by kernel_rfl
def Qi:(λ(P:Program) (f:FuncId) (fn:Func) (s:ChangeSpec) (c:OpenClaim)=>(P.stopKnobs==[])) prog 7 f7 Rows.fnNeckCalmSpec Rows.fnNeckCalmRow=true:=by kernel_rfl
def Qj:(λ(P:Program) (f:FuncId) (fn:Func) (s:ChangeSpec) (c:OpenClaim)=>(c.inPlace==P.inPlace f)) prog 7 f7 Rows.fnNeckCalmSpec Rows.fnNeckCalmRow=true:=by kernel_rfl
def Qk:(λ(P:Program) (f:FuncId) (fn:Func) (s:ChangeSpec) (c:OpenClaim)=>(c.unfollowed==P.unfollowed f)) prog 7 f7 Rows.fnNeckCalmSpec Rows.fnNeckCalmRow=true:=by kernel_rfl
def Ql:(λ(P:Program) (f:FuncId) (fn:Func) (s:ChangeSpec) (c:OpenClaim)=>(c.recurses==P.recurses f)) prog 7 f7 Rows.fnNeckCalmSpec Rows.fnNeckCalmRow=true:=by kernel_rfl
def Qm:(λ(P:Program) (f:FuncId) (fn:Func) (s:ChangeSpec) (c:OpenClaim)=>(c.named==P.varsNamed f)) prog 7 f7 Rows.fnNeckCalmSpec Rows.fnNeckCalmRow=true:=by kernel_rfl
def Qn:(λ(P:Program) (f:FuncId) (fn:Func) (s:ChangeSpec) (c:OpenClaim)=>(c.maps==(fn.params.toList++s.plain.varTypes P).any (P.mapsRec ·))) prog 7 f7 Rows.fnNeckCalmSpec Rows.fnNeckCalmRow=true:=by kernel_rfl
def Qo:(λ(P:Program) (f:FuncId) (fn:Func) (s:ChangeSpec) (c:OpenClaim)=>(c.ifaces==(fn.params.toList++s.plain.varTypes P).any (P.ifacesRec ·))) prog 7 f7 Rows.fnNeckCalmSpec Rows.fnNeckCalmRow=true:=by kernel_rfl
def Qp:(λ(P:Program) (f:FuncId) (fn:Func) (s:ChangeSpec) (c:OpenClaim)=>(c.mapsOut==P.mapsAmong fn.resultTypes.toList)) prog 7 f7 Rows.fnNeckCalmSpec Rows.fnNeckCalmRow=true:=by kernel_rfl
def Qq:(λ(P:Program) (f:FuncId) (fn:Func) (s:ChangeSpec) (c:OpenClaim)=>(c.loops==(fn.params.toList++s.plain.varTypes P).any (P.loopsFrom ·))) prog 7 f7 Rows.fnNeckCalmSpec Rows.fnNeckCalmRow=true:=by kernel_rfl
def Qr:(λ(P:Program) (f:FuncId) (fn:Func) (s:ChangeSpec) (c:OpenClaim)=>(c.wideKeys==(fn.params.toList++s.plain.varTypes P++fn.resultTypes.toList).any (P.wideKeysFrom ·))) prog 7 f7 Rows.fnNeckCalmSpec Rows.fnNeckCalmRow=true:=by kernel_rfl
def Qs:(λ(P:Program) (f:FuncId) (fn:Func) (s:ChangeSpec) (c:OpenClaim)=>s.vars.all (P.varReadable ·)) prog 7 f7 Rows.fnNeckCalmSpec Rows.fnNeckCalmRow=true:=by kernel_rfl
def Qt:(λ(P:Program) (f:FuncId) (fn:Func) (s:ChangeSpec) (c:OpenClaim)=>fn.resultTypes.all (λt=>P.readableRec t&&decide (t<P.types.size))) prog 7 f7 Rows.fnNeckCalmSpec Rows.fnNeckCalmRow=true:=by kernel_rfl
def Qu:(λ(P:Program) (f:FuncId) (fn:Func) (s:ChangeSpec) (c:OpenClaim)=>(c.ifacesOut==fn.resultTypes.toList.any (P.ifacesRec ·))) prog 7 f7 Rows.fnNeckCalmSpec Rows.fnNeckCalmRow=true:=by kernel_rfl
def Qv:(λ(P:Program) (f:FuncId) (fn:Func) (s:ChangeSpec) (c:OpenClaim)=>(c.loopsOut==fn.resultTypes.toList.any (P.loopsFrom ·))) prog 7 f7 Rows.fnNeckCalmSpec Rows.fnNeckCalmRow=true:=by kernel_rfl
def Qw:(λ(P:Program) (f:FuncId) (fn:Func) (s:ChangeSpec) (c:OpenClaim)=>(c.plainKeys==P.plainKeys)) prog 7 f7 Rows.fnNeckCalmSpec Rows.fnNeckCalmRow=true:=by kernel_rfl
def Qx:(λ(P:Program) (f:FuncId) (fn:Func) (s:ChangeSpec) (c:OpenClaim)=>c.shortTexts.isNone) prog 7 f7 Rows.fnNeckCalmSpec Rows.fnNeckCalmRow=true:=by kernel_rfl
def Qy:(λ(P:Program) (f:FuncId) (fn:Func) (s:ChangeSpec) (c:OpenClaim)=>P.stopsHeard) prog 7 f7 Rows.fnNeckCalmSpec Rows.fnNeckCalmRow=true:=by kernel_rfl
def Qz:(λ(P:Program) (f:FuncId) (fn:Func) (s:ChangeSpec) (c:OpenClaim)=>P.mayEnter) prog 7 f7 Rows.fnNeckCalmSpec Rows.fnNeckCalmRow=true:=by kernel_rfl
def QA:(λ(P:Program) (f:FuncId) (fn:Func) (s:ChangeSpec) (c:OpenClaim)=>(c.lifted==P.liftsFinal)) prog 7 f7 Rows.fnNeckCalmSpec Rows.fnNeckCalmRow=true:=by kernel_rfl
def QB:(λ(P:Program) (f:FuncId) (fn:Func) (s:ChangeSpec) (c:OpenClaim)=>(P.make==some c.make)) prog 7 f7 Rows.fnNeckCalmSpec Rows.fnNeckCalmRow=true:=by kernel_rfl
def QC:(λ(P:Program) (f:FuncId) (fn:Func) (s:ChangeSpec) (c:OpenClaim)=>(c.kinds==(if c.domain.isEmpty then[] else fn.params.toList.map λt=>match P.underlying t with|some (.int k)=>some k|_=>none))) prog 7 f7 Rows.fnNeckCalmSpec Rows.fnNeckCalmRow=true:=by kernel_rfl
def QD:(λ(P:Program) (f:FuncId) (fn:Func) (s:ChangeSpec) (c:OpenClaim)=>(c.pinned==c.pinnedBy)) prog 7 f7 Rows.fnNeckCalmSpec Rows.fnNeckCalmRow=true:=by kernel_rfl
def QE:(λ(P:Program) (f:FuncId) (fn:Func) (s:ChangeSpec) (c:OpenClaim)=>(c.veiled==(fn.params.toList++s.plain.varTypes P++fn.resultTypes.toList).any (P.veiledRec ·))) prog 7 f7 Rows.fnNeckCalmSpec Rows.fnNeckCalmRow=true:=by kernel_rfl
def QF:(λ(P:Program) (f:FuncId) (fn:Func) (s:ChangeSpec) (c:OpenClaim)=>c.veiledFits P fn.params.toList (fn.params.toList++s.plain.varTypes P++fn.resultTypes.toList)) prog 7 f7 Rows.fnNeckCalmSpec Rows.fnNeckCalmRow=true:=by kernel_rfl
def closed:joinedFacts prog 7 f7 Rows.fnNeckCalmSpec Rows.fnNeckCalmRow=true:=and_true (and_true (and_true (and_true (and_true (and_true (and_true (and_true (and_true (and_true (and_true (and_true (and_true (and_true (and_true (and_true (and_true (and_true (and_true (and_true (and_true (and_true (and_true (and_true (and_true (and_true (and_true (and_true (and_true (and_true (and_true (Qa) Qb) Qc) Qd) Qe) Qf) Qg) Qh) Qi) Qj) Qk) Ql) Qm) Qn) Qo) Qp) Qq) Qr) Qs) Qt) Qu) Qv) Qw) Qx) Qy) Qz) QA) QB) QC) QD) QE) QF
def own:ownKnob prog.godebug=none:=by kernel_rfl
def laidOut:laidOutB prog=true:=by kernel_rfl
def QG (H:Type) (enc:TypeId×Value->H) (W:World) (base:Nat) (args:Array Value) (ds gs:List (DataW H)) (before:List MemPlace)
 (rr:∀(j:Nat) t v,f7.params[j]?=some t->args[j]?=some v->Value.okWide prog W .any base t v)
 (hW:DataW.Whole enc prog f7.params.toList Rows.fnNeckCalmSpec.vars false W args.toList ds gs before):
 Calls prog 7 args W λe W'=>∃v,e=.returned v/\Rows.fnNeckCalmSpec.post enc prog f7 false true false false W args v W':=by
 have CI:=hW;obtain⟨p,q,Ik,hV,rfl,hfz,dU⟩:=hW;have hA:DataW.TrodAll enc prog W 0 (λ_=>true) true f7.params.toList args.toList ds p:=Ik;rw[params7] at hA rr;obtain⟨v0,vs0,d0,ds0,p0,q0,hO,rfl,rfl,h0,r0⟩:=trodAll_cons hA;obtain⟨rfl,rfl,rfl⟩:=trodAll_nil r0;obtain rfl:args=#[v0]:=by cases args;simp_all
 obtain⟨rfl,rfl⟩:=trodVars_none hV;clear Ik;simp only[List.append_nil] at CI;have uJ:Value.okWide prog W .any base 22 v0:=rr 0 22 v0 rfl rfl;obtain⟨x0,QH,f0⟩:=QI (base:=0) QJ (QK (show prog.underlying 22=some (.slice 5) by kernel_rfl) uJ) h0;have walk:=(QL x0).2 (oZ W) W #[v0] (QM W) ⟨QH,trivial⟩;refine walk.mono λe W' he=>?_;cases e with
 |panicked _=>exact he.elim
 |outgrown=>exact he.elim
 |returned v=>
  obtain⟨I',bX,hv⟩:=he
  have hv:v=.bool true:=hv
  subst hv
  have cj:∀x∈(p0),x.block<W.heap.size:=λx hx=>CI.lt x hx
  refine⟨_,rfl,QN (pa:=p0) (pv:=[]) CI (λ_ _ _=>trodAll_cons_mk (shut_bool Tryz.underlying4 _) trodAll_mk0) (λsp QO=>?_) (λ_ _=>rfl) bt bX.below (ok_one aP rfl (okWide_bool_mk Tryz.underlying4 _))⟩
  have t0:=WideElems.Trod_stays laidOut aP (of_decide_eq_true aP) h0 (λx hx=>bX.below.same (cj x hx)) QO
  have aU:=(trodAll_cons_mk t0 (trodAll_mk0 (H:=H) (enc:=enc) (P:=prog) (w:=W') (base:=0) (spare:=sp) (held:=true)))
  simp only[List.append_nil] at aU
  exact aU
noncomputable def CJ (os:Os):World:=World.holding prog os ⟨#[],#[],[]⟩
def QP (os:Os):laidMet prog Rows.fnNeckCalmRow.laid ((CJ os).forCall (λ_ _=>0) ⟨#[],#[.slice none 0 0],[]⟩).memory:=laidMet_of_run' 8 aP aP
def reads (os:Os) {H:Type} (enc:TypeId×Value->H):∃places,DataW.whole enc prog ((CJ os).forCall (λ_ _=>0) ⟨#[],#[.slice none 0 0],[]⟩).memory f7.params.toList Rows.fnNeckCalmSpec.vars false #[Value.slice none 0 0].toList 8=some ([.nil],[],places):=
 ⟨[],by kernel_rfl⟩
set_option maxRecDepth 100000 in
def lifted (os:Os) (started:os.Started) (H:Type) (enc:TypeId×Value->H) (F:Stop.Interp):
 ReturnsInHanded {} checked os 7 .any ((OpenSpec.ofChange Rows.fnNeckCalmSpec).preRow enc prog f7 Rows.fnNeckCalmRow.domain false Rows.fnNeckCalmRow.laid) (((OpenSpec.ofChange Rows.fnNeckCalmSpec).at F).post enc prog f7 false true false false):=by
 obtain⟨places,hx⟩:=reads os enc;refine returnsInHanded_of_row (C:=checked) (s:=OpenSpec.ofChange Rows.fnNeckCalmSpec) own started aP func7
  (witness_row_at (enc:=enc) (C:=checked) false (CJ os) #[.slice none 0 0] rfl aP aP aP
    (OpenSpec.preRow_of_cond 8 hx aP (λk hk=>by cases hk) aP (QP os))) ?_
 intro W base args ds gs before rr hW _ _ _ hL _ _;exact QG H enc W base args ds gs before rr hW
end FrFnNeckCalm
theorem fnNeckCalm_holds:Rows.FnNeckCalmSaid:=
 OpenClaim.holds_of_cond 7 f7 rfl rfl rfl rfl rfl rfl rfl ⟨rfl,rfl,rfl,rfl,rfl⟩ rfl rfl rfl rfl rfl aP func7 FrFnNeckCalm.closed
  (of_decide_eq_true aP) (by unfold Func.isWrapper;first|(rw[if_pos (by decide+kernel)];kernel_rfl)|(rw[if_neg (by decide+kernel)];exact⟨rfl,rfl⟩))
  (λos started H enc _ F=>by rw[OpenClaim.pre_eq_preRow];exact FrFnNeckCalm.lifted os started H enc F)
end Go.Proofs.YtldbakcpcfdlaaaGreat
