/- FnNeckMoved: a slot that moves in a calm has moved, with all that is in it. Conditions: none. -/
import Derived.Test.YtdanidpleofjgaaGreatRows
import Derived.JoinedCond
import Derived.Test.YtdanidpleofjgaaGreatQ02
set_option linter.all false
set_option maxRecDepth 100000
set_option maxHeartbeats 4000000
namespace Go.Proofs.YtdanidpleofjgaaGreat
open Go Go.RowKit Go.Proofs.Tryz
attribute [local irreducible] wpList Code.wp Ok
open Go.ChangeShapes Go.WideShapes Go.ChangeAt
namespace FrFnNeckMoved
def and_true {x y:Bool} (h:x=true) (k:y=true):(x&&y)=true:=by rw[h,k];rfl
def qe:(λ(P:Program) (f:FuncId) (fn:Func) (s:ChangeSpec) (c:OpenClaim)=>c.wf (OpenSpec.ofChange s)) prog 15 f15 Rows.fnNeckMovedSpec Rows.fnNeckMovedRow=true:=by kernel_rfl
def qf:(λ(P:Program) (f:FuncId) (fn:Func) (s:ChangeSpec) (c:OpenClaim)=>laidOutB P) prog 15 f15 Rows.fnNeckMovedSpec Rows.fnNeckMovedRow=true:=by kernel_rfl
def qg:(λ(P:Program) (f:FuncId) (fn:Func) (s:ChangeSpec) (c:OpenClaim)=>mapsRowed P) prog 15 f15 Rows.fnNeckMovedSpec Rows.fnNeckMovedRow=true:=by kernel_rfl
def qh:(λ(P:Program) (f:FuncId) (fn:Func) (s:ChangeSpec) (c:OpenClaim)=>fn.params.all (P.readableRec ·)) prog 15 f15 Rows.fnNeckMovedSpec Rows.fnNeckMovedRow=true:=by kernel_rfl
def qi:(λ(P:Program) (f:FuncId) (fn:Func) (s:ChangeSpec) (c:OpenClaim)=>namedTie P c.named s.vars) prog 15 f15 Rows.fnNeckMovedSpec Rows.fnNeckMovedRow=true:=by kernel_rfl
def qj:(λ(P:Program) (f:FuncId) (fn:Func) (s:ChangeSpec) (c:OpenClaim)=>(c.stops==[])) prog 15 f15 Rows.fnNeckMovedSpec Rows.fnNeckMovedRow=true:=by kernel_rfl
def qk:(λ(P:Program) (f:FuncId) (fn:Func) (s:ChangeSpec) (c:OpenClaim)=>(P.stops==[])) prog 15 f15 Rows.fnNeckMovedSpec Rows.fnNeckMovedRow=true:=by kernel_rfl
def ql:(λ(P:Program) (f:FuncId) (fn:Func) (s:ChangeSpec) (c:OpenClaim)=>(c.knobs==[])) prog 15 f15 Rows.fnNeckMovedSpec Rows.fnNeckMovedRow=true:=by kernel_rfl
def qm:(λ(P:Program) (f:FuncId) (fn:Func) (s:ChangeSpec) (c:OpenClaim)=>(P.stopKnobs==[])) prog 15 f15 Rows.fnNeckMovedSpec Rows.fnNeckMovedRow=true:=by kernel_rfl
def qn:(λ(P:Program) (f:FuncId) (fn:Func) (s:ChangeSpec) (c:OpenClaim)=>(c.inPlace==P.inPlace f)) prog 15 f15 Rows.fnNeckMovedSpec Rows.fnNeckMovedRow=true:=by kernel_rfl
def qp:(λ(P:Program) (f:FuncId) (fn:Func) (s:ChangeSpec) (c:OpenClaim)=>(c.unfollowed==P.unfollowed f)) prog 15 f15 Rows.fnNeckMovedSpec Rows.fnNeckMovedRow=true:=by kernel_rfl
def qt:(λ(P:Program) (f:FuncId) (fn:Func) (s:ChangeSpec) (c:OpenClaim)=>(c.recurses==P.recurses f)) prog 15 f15 Rows.fnNeckMovedSpec Rows.fnNeckMovedRow=true:=by kernel_rfl
def qu:(λ(P:Program) (f:FuncId) (fn:Func) (s:ChangeSpec) (c:OpenClaim)=>(c.named==P.varsNamed f)) prog 15 f15 Rows.fnNeckMovedSpec Rows.fnNeckMovedRow=true:=by kernel_rfl
def qv:(λ(P:Program) (f:FuncId) (fn:Func) (s:ChangeSpec) (c:OpenClaim)=>(c.maps==(fn.params.toList++s.plain.varTypes P).any (P.mapsRec ·))) prog 15 f15 Rows.fnNeckMovedSpec Rows.fnNeckMovedRow=true:=by kernel_rfl
def qw:(λ(P:Program) (f:FuncId) (fn:Func) (s:ChangeSpec) (c:OpenClaim)=>(c.ifaces==(fn.params.toList++s.plain.varTypes P).any (P.ifacesRec ·))) prog 15 f15 Rows.fnNeckMovedSpec Rows.fnNeckMovedRow=true:=by kernel_rfl
def qx:(λ(P:Program) (f:FuncId) (fn:Func) (s:ChangeSpec) (c:OpenClaim)=>(c.mapsOut==P.mapsAmong fn.resultTypes.toList)) prog 15 f15 Rows.fnNeckMovedSpec Rows.fnNeckMovedRow=true:=by kernel_rfl
def qz:(λ(P:Program) (f:FuncId) (fn:Func) (s:ChangeSpec) (c:OpenClaim)=>(c.loops==(fn.params.toList++s.plain.varTypes P).any (P.loopsFrom ·))) prog 15 f15 Rows.fnNeckMovedSpec Rows.fnNeckMovedRow=true:=by kernel_rfl
def qA:(λ(P:Program) (f:FuncId) (fn:Func) (s:ChangeSpec) (c:OpenClaim)=>(c.wideKeys==(fn.params.toList++s.plain.varTypes P++fn.resultTypes.toList).any (P.wideKeysFrom ·))) prog 15 f15 Rows.fnNeckMovedSpec Rows.fnNeckMovedRow=true:=by kernel_rfl
def qB:(λ(P:Program) (f:FuncId) (fn:Func) (s:ChangeSpec) (c:OpenClaim)=>s.vars.all (P.varReadable ·)) prog 15 f15 Rows.fnNeckMovedSpec Rows.fnNeckMovedRow=true:=by kernel_rfl
def qC:(λ(P:Program) (f:FuncId) (fn:Func) (s:ChangeSpec) (c:OpenClaim)=>fn.resultTypes.all (λt=>P.readableRec t&&decide (t<P.types.size))) prog 15 f15 Rows.fnNeckMovedSpec Rows.fnNeckMovedRow=true:=by kernel_rfl
def qD:(λ(P:Program) (f:FuncId) (fn:Func) (s:ChangeSpec) (c:OpenClaim)=>(c.ifacesOut==fn.resultTypes.toList.any (P.ifacesRec ·))) prog 15 f15 Rows.fnNeckMovedSpec Rows.fnNeckMovedRow=true:=by kernel_rfl
def qE:(λ(P:Program) (f:FuncId) (fn:Func) (s:ChangeSpec) (c:OpenClaim)=>(c.loopsOut==fn.resultTypes.toList.any (P.loopsFrom ·))) prog 15 f15 Rows.fnNeckMovedSpec Rows.fnNeckMovedRow=true:=by kernel_rfl
def qF:(λ(P:Program) (f:FuncId) (fn:Func) (s:ChangeSpec) (c:OpenClaim)=>(c.plainKeys==P.plainKeys)) prog 15 f15 Rows.fnNeckMovedSpec Rows.fnNeckMovedRow=true:=by kernel_rfl
def qG:(λ(P:Program) (f:FuncId) (fn:Func) (s:ChangeSpec) (c:OpenClaim)=>c.shortTexts.isNone) prog 15 f15 Rows.fnNeckMovedSpec Rows.fnNeckMovedRow=true:=by kernel_rfl
def qH:(λ(P:Program) (f:FuncId) (fn:Func) (s:ChangeSpec) (c:OpenClaim)=>P.stopsHeard) prog 15 f15 Rows.fnNeckMovedSpec Rows.fnNeckMovedRow=true:=by kernel_rfl
def qI:(λ(P:Program) (f:FuncId) (fn:Func) (s:ChangeSpec) (c:OpenClaim)=>P.mayEnter) prog 15 f15 Rows.fnNeckMovedSpec Rows.fnNeckMovedRow=true:=by kernel_rfl
def qJ:(λ(P:Program) (f:FuncId) (fn:Func) (s:ChangeSpec) (c:OpenClaim)=>(c.lifted==P.liftsFinal)) prog 15 f15 Rows.fnNeckMovedSpec Rows.fnNeckMovedRow=true:=by kernel_rfl
def qK:(λ(P:Program) (f:FuncId) (fn:Func) (s:ChangeSpec) (c:OpenClaim)=>(P.make==some c.make)) prog 15 f15 Rows.fnNeckMovedSpec Rows.fnNeckMovedRow=true:=by kernel_rfl
def qL:(λ(P:Program) (f:FuncId) (fn:Func) (s:ChangeSpec) (c:OpenClaim)=>(c.kinds==(if c.domain.isEmpty then[] else fn.params.toList.map λt=>match P.underlying t with|some (.int k)=>some k|_=>none))) prog 15 f15 Rows.fnNeckMovedSpec Rows.fnNeckMovedRow=true:=by kernel_rfl
def qM:(λ(P:Program) (f:FuncId) (fn:Func) (s:ChangeSpec) (c:OpenClaim)=>(c.pinned==c.pinnedBy)) prog 15 f15 Rows.fnNeckMovedSpec Rows.fnNeckMovedRow=true:=by kernel_rfl
def qN:(λ(P:Program) (f:FuncId) (fn:Func) (s:ChangeSpec) (c:OpenClaim)=>(c.veiled==(fn.params.toList++s.plain.varTypes P++fn.resultTypes.toList).any (P.veiledRec ·))) prog 15 f15 Rows.fnNeckMovedSpec Rows.fnNeckMovedRow=true:=by kernel_rfl
def qO:(λ(P:Program) (f:FuncId) (fn:Func) (s:ChangeSpec) (c:OpenClaim)=>c.veiledFits P fn.params.toList (fn.params.toList++s.plain.varTypes P++fn.resultTypes.toList)) prog 15 f15 Rows.fnNeckMovedSpec Rows.fnNeckMovedRow=true:=by kernel_rfl
def closed:joinedFacts prog 15 f15 Rows.fnNeckMovedSpec Rows.fnNeckMovedRow=true:=and_true (and_true (and_true (and_true (and_true (and_true (and_true (and_true (and_true (and_true (and_true (and_true (and_true (and_true (and_true (and_true (and_true (and_true (and_true (and_true (and_true (and_true (and_true (and_true (and_true (and_true (and_true (and_true (and_true (and_true (and_true (qe) qf) qg) qh) qi) qj) qk) ql) qm) qn) qp) qt) qu) qv) qw) qx) qz) qA) qB) qC) qD) qE) qF) qG) qH) qI) qJ) qK) qL) qM) qN) qO
def own:ownKnob prog.godebug=none:=by kernel_rfl
def laidOut:laidOutB prog=true:=by kernel_rfl
def qP (H:Type) (enc:TypeId×Value->H) (W:World) (base:Nat) (args:Array Value) (ds gs:List (DataW H)) (before:List MemPlace)
 (gC:∀(j:Nat) t v,f15.params[j]?=some t->args[j]?=some v->Value.okWide prog W .any base t v)
 (hW:DataW.Whole enc prog f15.params.toList Rows.fnNeckMovedSpec.vars false W args.toList ds gs before):
 Calls prog 15 args W λe W'=>∃v,e=.returned v/\Rows.fnNeckMovedSpec.post enc prog f15 false true false false W args v W':=by
 have jU:=hW;obtain⟨p,q,mf,hV,rfl,As,cR⟩:=hW;have hA:DataW.TrodAll enc prog W 0 (λ_=>true) true f15.params.toList args.toList ds p:=mf;rw[params15] at hA gC;obtain⟨v0,Au,d0,Av,p0,q0,iN,rfl,rfl,h0,r0⟩:=trodAll_cons hA;obtain⟨v1,vs1,d1,ds1,p1,q1,rfl,rfl,rfl,h1,r1⟩:=trodAll_cons r0;obtain⟨rfl,rfl,rfl⟩:=trodAll_nil r1;obtain rfl:args=#[v0,v1]:=by cases args;simp_all
 obtain⟨rfl,rfl⟩:=trodVars_none hV;clear mf;simp only[List.append_nil] at jU;have mG:Value.okWide prog W .any base 22 v0:=gC 0 22 v0 rfl rfl;obtain⟨x0,qQ,f0⟩:=wu (base:=0) wv (wx (show prog.underlying 22=some (.slice 5) by kernel_rfl) mG) h0;have VN:Value.okWide prog W .any base 22 v1:=gC 1 22 v1 rfl rfl;obtain⟨x1,Aw,f1⟩:=wu (base:=0) wv (wx (show prog.underlying 22=some (.slice 5) by kernel_rfl) VN) h1;have walk:=(VO x0 x1).2 (nd W) W #[v0,v1] (yj W) ⟨qQ,⟨Aw,trivial⟩⟩;refine walk.mono λe W' he=>?_;cases e with
 |panicked _=>exact he.elim
 |outgrown=>exact he.elim
 |returned v=>
  obtain⟨I',be,hv⟩:=he
  have hv:v=.bool true:=hv
  subst hv
  have bw:∀x∈(p0++p1),x.block<W.heap.size:=λx hx=>jU.lt x hx
  refine⟨_,rfl,yk (pa:=p0++p1) (pv:=[]) jU (λ_ _ _=>trodAll_cons_mk (shut_bool Tryz.underlying4 _) trodAll_mk0) (λsp pg=>?_) (λ_ _=>rfl) bk be.below (ok_one aS rfl (okWide_bool_mk Tryz.underlying4 _))⟩
  have t0:=WideElems.Trod_stays laidOut aS (of_decide_eq_true aS) h0 (λx hx=>be.below.same (bw x (List.mem_append_left _ hx))) (λx hx=>pg x (List.mem_append_left _ hx))
  have t1:=WideElems.Trod_stays laidOut aS (of_decide_eq_true aS) h1 (λx hx=>be.below.same (bw x (List.mem_append_right _ hx))) (λx hx=>pg x (List.mem_append_right _ hx))
  have aT:=(trodAll_cons_mk t0 (trodAll_cons_mk t1 (trodAll_mk0 (H:=H) (enc:=enc) (P:=prog) (w:=W') (base:=0) (spare:=sp) (held:=true))))
  simp only[List.append_nil] at aT
  exact aT
noncomputable def jV (os:Os):World:=World.holding prog os ⟨#[],#[],[]⟩
def qR (os:Os):laidMet prog Rows.fnNeckMovedRow.laid ((jV os).forCall (λ_ _=>0) ⟨#[],#[.slice none 0 0,.slice none 0 0],[]⟩).memory:=laidMet_of_run' 8 aS aS
def reads (os:Os) {H:Type} (enc:TypeId×Value->H):∃places,DataW.whole enc prog ((jV os).forCall (λ_ _=>0) ⟨#[],#[.slice none 0 0,.slice none 0 0],[]⟩).memory f15.params.toList Rows.fnNeckMovedSpec.vars false #[Value.slice none 0 0,Value.slice none 0 0].toList 8=some ([.nil,.nil],[],places):=
 ⟨[],by kernel_rfl⟩
set_option maxRecDepth 100000 in
def lifted (os:Os) (started:os.Started) (H:Type) (enc:TypeId×Value->H) (F:Stop.Interp):
 ReturnsInHanded {} checked os 15 .any ((OpenSpec.ofChange Rows.fnNeckMovedSpec).preRow enc prog f15 Rows.fnNeckMovedRow.domain false Rows.fnNeckMovedRow.laid) (((OpenSpec.ofChange Rows.fnNeckMovedSpec).at F).post enc prog f15 false true false false):=by
 obtain⟨places,hx⟩:=reads os enc;refine returnsInHanded_of_row (C:=checked) (s:=OpenSpec.ofChange Rows.fnNeckMovedSpec) own started aS func15
  (witness_row_at (enc:=enc) (C:=checked) false (jV os) #[.slice none 0 0,.slice none 0 0] rfl aS aS aS
    (OpenSpec.preRow_of_cond 8 hx aS (λk hk=>by cases hk) aS (qR os))) ?_
 intro W base args ds gs before gC hW _ _ _ hL _ _;exact qP H enc W base args ds gs before gC hW
end FrFnNeckMoved
theorem fnNeckMoved_holds:Rows.FnNeckMovedSaid:=
 OpenClaim.holds_of_cond 15 f15 rfl rfl rfl rfl rfl rfl rfl ⟨rfl,rfl,rfl,rfl,rfl⟩ rfl rfl rfl rfl rfl aS func15 FrFnNeckMoved.closed
  (of_decide_eq_true aS) (by unfold Func.isWrapper;first|(rw[if_pos (by decide+kernel)];kernel_rfl)|(rw[if_neg (by decide+kernel)];exact⟨rfl,rfl⟩))
  (λos started H enc _ F=>by rw[OpenClaim.pre_eq_preRow];exact FrFnNeckMoved.lifted os started H enc F)
end Go.Proofs.YtdanidpleofjgaaGreat
