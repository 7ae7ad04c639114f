/- FnNeckAnswer: a call that was answered stays so: whatever happens behind, in a drawn script, its end and its answers stay. Conditions: none. -/
import Derived.Test.YtoeioeimmfpefaaGreatRows
import Derived.JoinedCond
import Derived.Test.YtoeioeimmfpefaaGreatP50
set_option linter.unusedVariables false
set_option linter.unusedSimpArgs false
set_option maxRecDepth 100000
set_option maxHeartbeats 4000000
namespace Go.Proofs.YtoeioeimmfpefaaGreat
open Go Go.RowKit
attribute [local irreducible] wpList Code.wp Ok
open Go.ChangeShapes Go.WideShapes Go.ChangeAt
namespace FrFnNeckAnswer
theorem and_true {x y:Bool} (h:x=true) (k:y=true):(x&&y)=true:=by rw[h,k];rfl
theorem LZ:(fun(P:Program) (f:FuncId) (fn:Func) (s:ChangeSpec) (c:OpenClaim)=>c.wf (OpenSpec.ofChange s)) Tryz.prog 5 Tryz.f5 Rows.fnNeckAnswerSpec Rows.fnNeckAnswerRow=true:=by kernel_rfl
theorem L0:(fun(P:Program) (f:FuncId) (fn:Func) (s:ChangeSpec) (c:OpenClaim)=>laidOutB P) Tryz.prog 5 Tryz.f5 Rows.fnNeckAnswerSpec Rows.fnNeckAnswerRow=true:=by kernel_rfl
theorem L1:(fun(P:Program) (f:FuncId) (fn:Func) (s:ChangeSpec) (c:OpenClaim)=>mapsRowed P) Tryz.prog 5 Tryz.f5 Rows.fnNeckAnswerSpec Rows.fnNeckAnswerRow=true:=by kernel_rfl
theorem L3:(fun(P:Program) (f:FuncId) (fn:Func) (s:ChangeSpec) (c:OpenClaim)=>fn.params.all (P.readableRec ·)) Tryz.prog 5 Tryz.f5 Rows.fnNeckAnswerSpec Rows.fnNeckAnswerRow=true:=by kernel_rfl
theorem L4:(fun(P:Program) (f:FuncId) (fn:Func) (s:ChangeSpec) (c:OpenClaim)=>namedTie P c.named s.vars) Tryz.prog 5 Tryz.f5 Rows.fnNeckAnswerSpec Rows.fnNeckAnswerRow=true:=by kernel_rfl
theorem L5:(fun(P:Program) (f:FuncId) (fn:Func) (s:ChangeSpec) (c:OpenClaim)=>(c.stops==[])) Tryz.prog 5 Tryz.f5 Rows.fnNeckAnswerSpec Rows.fnNeckAnswerRow=true:=by kernel_rfl
theorem L6:(fun(P:Program) (f:FuncId) (fn:Func) (s:ChangeSpec) (c:OpenClaim)=>(P.stops==[])) Tryz.prog 5 Tryz.f5 Rows.fnNeckAnswerSpec Rows.fnNeckAnswerRow=true:=by kernel_rfl
theorem L7:(fun(P:Program) (f:FuncId) (fn:Func) (s:ChangeSpec) (c:OpenClaim)=>(c.knobs==[])) Tryz.prog 5 Tryz.f5 Rows.fnNeckAnswerSpec Rows.fnNeckAnswerRow=true:=by kernel_rfl
theorem L8:(fun(P:Program) (f:FuncId) (fn:Func) (s:ChangeSpec) (c:OpenClaim)=>(P.stopKnobs==[])) Tryz.prog 5 Tryz.f5 Rows.fnNeckAnswerSpec Rows.fnNeckAnswerRow=true:=by kernel_rfl
theorem L9:(fun(P:Program) (f:FuncId) (fn:Func) (s:ChangeSpec) (c:OpenClaim)=>(c.inPlace==P.inPlace f)) Tryz.prog 5 Tryz.f5 Rows.fnNeckAnswerSpec Rows.fnNeckAnswerRow=true:=by kernel_rfl
theorem Ma:(fun(P:Program) (f:FuncId) (fn:Func) (s:ChangeSpec) (c:OpenClaim)=>(c.unfollowed==P.unfollowed f)) Tryz.prog 5 Tryz.f5 Rows.fnNeckAnswerSpec Rows.fnNeckAnswerRow=true:=by kernel_rfl
theorem Mb:(fun(P:Program) (f:FuncId) (fn:Func) (s:ChangeSpec) (c:OpenClaim)=>(c.recurses==P.recurses f)) Tryz.prog 5 Tryz.f5 Rows.fnNeckAnswerSpec Rows.fnNeckAnswerRow=true:=by kernel_rfl
theorem Mc:(fun(P:Program) (f:FuncId) (fn:Func) (s:ChangeSpec) (c:OpenClaim)=>(c.named==P.varsNamed f)) Tryz.prog 5 Tryz.f5 Rows.fnNeckAnswerSpec Rows.fnNeckAnswerRow=true:=by kernel_rfl
theorem Md:(fun(P:Program) (f:FuncId) (fn:Func) (s:ChangeSpec) (c:OpenClaim)=>(c.maps==(fn.params.toList++s.plain.varTypes P).any (P.mapsRec ·))) Tryz.prog 5 Tryz.f5 Rows.fnNeckAnswerSpec Rows.fnNeckAnswerRow=true:=by kernel_rfl
theorem Me:(fun(P:Program) (f:FuncId) (fn:Func) (s:ChangeSpec) (c:OpenClaim)=>(c.ifaces==(fn.params.toList++s.plain.varTypes P).any (P.ifacesRec ·))) Tryz.prog 5 Tryz.f5 Rows.fnNeckAnswerSpec Rows.fnNeckAnswerRow=true:=by kernel_rfl
theorem Mf:(fun(P:Program) (f:FuncId) (fn:Func) (s:ChangeSpec) (c:OpenClaim)=>(c.mapsOut==P.mapsAmong fn.resultTypes.toList)) Tryz.prog 5 Tryz.f5 Rows.fnNeckAnswerSpec Rows.fnNeckAnswerRow=true:=by kernel_rfl
theorem Mg:(fun(P:Program) (f:FuncId) (fn:Func) (s:ChangeSpec) (c:OpenClaim)=>(c.loops==(fn.params.toList++s.plain.varTypes P).any (P.loopsFrom ·))) Tryz.prog 5 Tryz.f5 Rows.fnNeckAnswerSpec Rows.fnNeckAnswerRow=true:=by kernel_rfl
theorem Mh:(fun(P:Program) (f:FuncId) (fn:Func) (s:ChangeSpec) (c:OpenClaim)=>(c.wideKeys==(fn.params.toList++s.plain.varTypes P++fn.resultTypes.toList).any (P.wideKeysFrom ·))) Tryz.prog 5 Tryz.f5 Rows.fnNeckAnswerSpec Rows.fnNeckAnswerRow=true:=by kernel_rfl
theorem Mi:(fun(P:Program) (f:FuncId) (fn:Func) (s:ChangeSpec) (c:OpenClaim)=>s.vars.all (P.varReadable ·)) Tryz.prog 5 Tryz.f5 Rows.fnNeckAnswerSpec Rows.fnNeckAnswerRow=true:=by kernel_rfl
theorem Mj:(fun(P:Program) (f:FuncId) (fn:Func) (s:ChangeSpec) (c:OpenClaim)=>fn.resultTypes.all (fun t=>P.readableRec t&&decide (t<P.types.size))) Tryz.prog 5 Tryz.f5 Rows.fnNeckAnswerSpec Rows.fnNeckAnswerRow=true:=by kernel_rfl
theorem Ml:(fun(P:Program) (f:FuncId) (fn:Func) (s:ChangeSpec) (c:OpenClaim)=>(c.ifacesOut==fn.resultTypes.toList.any (P.ifacesRec ·))) Tryz.prog 5 Tryz.f5 Rows.fnNeckAnswerSpec Rows.fnNeckAnswerRow=true:=by kernel_rfl
theorem Mm:(fun(P:Program) (f:FuncId) (fn:Func) (s:ChangeSpec) (c:OpenClaim)=>(c.loopsOut==fn.resultTypes.toList.any (P.loopsFrom ·))) Tryz.prog 5 Tryz.f5 Rows.fnNeckAnswerSpec Rows.fnNeckAnswerRow=true:=by kernel_rfl
theorem Mn:(fun(P:Program) (f:FuncId) (fn:Func) (s:ChangeSpec) (c:OpenClaim)=>(c.plainKeys==P.plainKeys)) Tryz.prog 5 Tryz.f5 Rows.fnNeckAnswerSpec Rows.fnNeckAnswerRow=true:=by kernel_rfl
theorem Mo:(fun(P:Program) (f:FuncId) (fn:Func) (s:ChangeSpec) (c:OpenClaim)=>c.shortTexts.isNone) Tryz.prog 5 Tryz.f5 Rows.fnNeckAnswerSpec Rows.fnNeckAnswerRow=true:=by kernel_rfl
theorem Mp:(fun(P:Program) (f:FuncId) (fn:Func) (s:ChangeSpec) (c:OpenClaim)=>P.stopsHeard) Tryz.prog 5 Tryz.f5 Rows.fnNeckAnswerSpec Rows.fnNeckAnswerRow=true:=by kernel_rfl
theorem Mq:(fun(P:Program) (f:FuncId) (fn:Func) (s:ChangeSpec) (c:OpenClaim)=>P.mayEnter) Tryz.prog 5 Tryz.f5 Rows.fnNeckAnswerSpec Rows.fnNeckAnswerRow=true:=by kernel_rfl
theorem Mr:(fun(P:Program) (f:FuncId) (fn:Func) (s:ChangeSpec) (c:OpenClaim)=>(c.lifted==P.liftsFinal)) Tryz.prog 5 Tryz.f5 Rows.fnNeckAnswerSpec Rows.fnNeckAnswerRow=true:=by kernel_rfl
theorem Ms:(fun(P:Program) (f:FuncId) (fn:Func) (s:ChangeSpec) (c:OpenClaim)=>(P.make==some c.make)) Tryz.prog 5 Tryz.f5 Rows.fnNeckAnswerSpec Rows.fnNeckAnswerRow=true:=by kernel_rfl
theorem Mt:(fun(P:Program) (f:FuncId) (fn:Func) (s:ChangeSpec) (c:OpenClaim)=>(c.kinds==(if c.domain.isEmpty then[] else fn.params.toList.map fun t=>match P.underlying t with|some (.int k)=>some k|_=>none))) Tryz.prog 5 Tryz.f5 Rows.fnNeckAnswerSpec Rows.fnNeckAnswerRow=true:=by kernel_rfl
theorem Mu:(fun(P:Program) (f:FuncId) (fn:Func) (s:ChangeSpec) (c:OpenClaim)=>(c.pinned==c.pinnedBy)) Tryz.prog 5 Tryz.f5 Rows.fnNeckAnswerSpec Rows.fnNeckAnswerRow=true:=by kernel_rfl
theorem Mv:(fun(P:Program) (f:FuncId) (fn:Func) (s:ChangeSpec) (c:OpenClaim)=>(c.veiled==(fn.params.toList++s.plain.varTypes P++fn.resultTypes.toList).any (P.veiledRec ·))) Tryz.prog 5 Tryz.f5 Rows.fnNeckAnswerSpec Rows.fnNeckAnswerRow=true:=by kernel_rfl
theorem Mw:(fun(P:Program) (f:FuncId) (fn:Func) (s:ChangeSpec) (c:OpenClaim)=>c.veiledFits P fn.params.toList (fn.params.toList++s.plain.varTypes P++fn.resultTypes.toList)) Tryz.prog 5 Tryz.f5 Rows.fnNeckAnswerSpec Rows.fnNeckAnswerRow=true:=by kernel_rfl
theorem closed:joinedFacts Tryz.prog 5 Tryz.f5 Rows.fnNeckAnswerSpec Rows.fnNeckAnswerRow=true:=and_true (and_true (and_true (and_true (and_true (and_true (and_true (and_true (and_true (and_true (and_true (and_true (and_true (and_true (and_true (and_true (and_true (and_true (and_true (and_true (and_true (and_true (and_true (and_true (and_true (and_true (and_true (and_true (and_true (and_true (and_true (LZ) L0) L1) L3) L4) L5) L6) L7) L8) L9) Ma) Mb) Mc) Md) Me) Mf) Mg) Mh) Mi) Mj) Ml) Mm) Mn) Mo) Mp) Mq) Mr) Ms) Mt) Mu) Mv) Mw
theorem own:ownKnob Tryz.prog.godebug=none:=by kernel_rfl
theorem laidOut:laidOutB Tryz.prog=true:=by kernel_rfl
theorem Mx (H:Type) (enc:TypeId×Value→H) (W:World) (base:Nat) (args:Array Value) (ds gs:List (DataW H)) (before:List MemPlace)
 (qB:∀(j:Nat) t v,Tryz.f5.params[j]?=some t→args[j]?=some v→Value.okWide Tryz.prog W .any base t v)
 (hW:DataW.Whole enc Tryz.prog Tryz.f5.params.toList Rows.fnNeckAnswerSpec.vars false W args.toList ds gs before):
 Calls Tryz.prog 5 args W fun e W'=>∃v,e=.returned v∧Rows.fnNeckAnswerSpec.post enc Tryz.prog Tryz.f5 false true false false W args v W':=by
 have Av:=hW
 obtain⟨p,q,ER,hV,rfl,ZO,cD⟩:=hW
 have hA:DataW.TrodAll enc Tryz.prog W 0 (fun _=>true) true Tryz.f5.params.toList args.toList ds p:=ER
 rw[Tryz.params5] at hA qB
 obtain⟨v0,ZP,d0,ZQ,p0,q0,ic,rfl,rfl,h0,r0⟩:=trodAll_cons hA
 obtain⟨v1,vs1,d1,ds1,p1,q1,rfl,rfl,rfl,h1,r1⟩:=trodAll_cons r0
 obtain⟨rfl,rfl,rfl⟩:=trodAll_nil r1
 obtain rfl:args=#[v0,v1]:=by cases args;simp_all
 obtain⟨rfl,rfl⟩:=trodVars_none hV
 clear ER
 simp only[List.append_nil] at Av
 have tv:Value.okWide Tryz.prog W .any base 22 v0:=qB 0 22 v0 rfl rfl
 obtain⟨x0,My,f0⟩:=Mz (base:=0) MA (MB (show Tryz.prog.underlying 22=some (.slice 5) by kernel_rfl) tv) h0
 have m1:Value.okWide Tryz.prog W .any base 22 v1:=qB 1 22 v1 rfl rfl
 obtain⟨x1,Bu,f1⟩:=Mz (base:=0) MA (MB (show Tryz.prog.underlying 22=some (.slice 5) by kernel_rfl) m1) h1
 have walk:=(m3 x0 x1).2 (oc W) W #[v0,v1] (MD W) ⟨My,⟨Bu,trivial⟩⟩
 refine walk.mono fun e W' he=>?_
 cases e with
 |panicked _=>exact he.elim
 |outgrown=>exact he.elim
 |returned v=>
  obtain⟨I',cm,hv⟩:=he
  have hv:v=.bool true:=hv
  subst hv
  have bJ:∀x∈(p0++p1),x.block<W.heap.size:=fun x hx=>Av.lt x hx
  refine⟨_,rfl,ME (pa:=p0++p1) (pv:=[]) Av (fun _ _ _=>trodAll_cons_mk (shut_bool Tryz.underlying4 _) trodAll_mk0) (fun sp MF=>?_) (fun _ _=>rfl) (by simp) cm.below (ok_one (by kernel_rfl) rfl (okWide_bool_mk Tryz.underlying4 _))⟩
  have t0:=WideElems.Trod_stays laidOut (by kernel_rfl) (of_decide_eq_true (by kernel_rfl)) h0 (fun x hx=>cm.below.same (bJ x (List.mem_append_left _ hx))) (fun x hx=>MF x (List.mem_append_left _ hx))
  have t1:=WideElems.Trod_stays laidOut (by kernel_rfl) (of_decide_eq_true (by kernel_rfl)) h1 (fun x hx=>cm.below.same (bJ x (List.mem_append_right _ hx))) (fun x hx=>MF x (List.mem_append_right _ hx))
  have aT:=(trodAll_cons_mk t0 (trodAll_cons_mk t1 (trodAll_mk0 (H:=H) (enc:=enc) (P:=Tryz.prog) (w:=W') (base:=0) (spare:=sp) (held:=true))))
  simp only[List.append_nil] at aT
  exact aT
noncomputable def Aw (os:Os):World:=World.holding Tryz.prog os ⟨#[],#[],[]⟩
theorem MG (os:Os):laidMet Tryz.prog Rows.fnNeckAnswerRow.laid ((Aw os).forCall (fun _ _=>0) ⟨#[],#[.slice none 0 0,.slice none 0 0],[]⟩).memory:=laidMet_of_run' 8 (by kernel_rfl) (by kernel_rfl)
theorem reads (os:Os) {H:Type} (enc:TypeId×Value→H):∃places,DataW.whole enc Tryz.prog ((Aw os).forCall (fun _ _=>0) ⟨#[],#[.slice none 0 0,.slice none 0 0],[]⟩).memory Tryz.f5.params.toList Rows.fnNeckAnswerSpec.vars false #[Value.slice none 0 0,Value.slice none 0 0].toList 8=some ([.nil,.nil],[],places):=
 ⟨[],by kernel_rfl⟩
set_option maxRecDepth 100000 in
theorem lifted (os:Os) (started:os.Started) (H:Type) (enc:TypeId×Value→H) (F:Stop.Interp):
 ReturnsInHanded {} Tryz.checked os 5 .any ((OpenSpec.ofChange Rows.fnNeckAnswerSpec).preRow enc Tryz.prog Tryz.f5 Rows.fnNeckAnswerRow.domain false Rows.fnNeckAnswerRow.laid) (((OpenSpec.ofChange Rows.fnNeckAnswerSpec).at F).post enc Tryz.prog Tryz.f5 false true false false):=by
 obtain⟨places,hx⟩:=reads os enc
 refine returnsInHanded_of_row (C:=Tryz.checked) (s:=OpenSpec.ofChange Rows.fnNeckAnswerSpec) own started (by kernel_rfl) Tryz.func5
  (witness_row_at (enc:=enc) (C:=Tryz.checked) false (Aw os) #[.slice none 0 0,.slice none 0 0] rfl (by kernel_rfl) (by kernel_rfl) (by kernel_rfl)
    (OpenSpec.preRow_of_cond 8 hx (by kernel_rfl) (fun k hk=>by cases hk) (by kernel_rfl) (MG os))) ?_
 intro W base args ds gs before qB hW _ _ _ hL _ _
 exact Mx H enc W base args ds gs before qB hW
end FrFnNeckAnswer
theorem fnNeckAnswer_holds:Rows.FnNeckAnswerSaid:=
 OpenClaim.holds_of_cond 5 Tryz.f5 rfl rfl rfl rfl rfl rfl rfl ⟨rfl,rfl,rfl,rfl,rfl⟩ rfl rfl rfl rfl rfl (by kernel_rfl) Tryz.func5 FrFnNeckAnswer.closed
  (of_decide_eq_true (by kernel_rfl)) (by unfold Func.isWrapper;first|(rw[if_pos (by decide+kernel)];kernel_rfl)|(rw[if_neg (by decide+kernel)];exact⟨rfl,rfl⟩))
  (fun os started H enc _ F=>by rw[OpenClaim.pre_eq_preRow];exact FrFnNeckAnswer.lifted os started H enc F)
end Go.Proofs.YtoeioeimmfpefaaGreat
