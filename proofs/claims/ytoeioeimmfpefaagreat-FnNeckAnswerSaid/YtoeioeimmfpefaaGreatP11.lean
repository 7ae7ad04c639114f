/- Part 11: rules of the proofs, contracts of functions, plain facts. -/
import Derived.Test.YtoeioeimmfpefaaGreatP10
set_option linter.unusedVariables false
set_option linter.unusedSimpArgs false
namespace Go.Proofs.YtoeioeimmfpefaaGreat
open Go Go.RowKit
theorem N1 {P:Program} {f:FuncId} {fn:Func} {code:Code} {args:List AV} {R:Ending→World→Prop} (N:Nat) (hf:P.funcs[f]?=some fn) (hb:fn.body=some code) (hn:fn.ntmps=N) (hN:Nat.ble args.length N=true)
 {W0:World} {F:Nat→Prop} {I0 I:Im} {w:World} {vs:Array Value} {h0:List Own} (cm:en F I0 W0 I w) (ep:bQ (Ctx.own ⟨W0,I0,N,F⟩) I w h0) (ha:cN I args vs.toList)
 (h:∀a:Act,St ⟨W0,I0,N,F⟩ I h0 (ki 0 args) a w→code.wp P (bodyPost P fn R) a w):Calls P f vs w R:=by
 refine calls_of_wp hf hb ?_
 have hl:vs.size=args.length:=by simpa using ha.length
 have MN:args.length≤N:=Nat.le_of_ble_eq_true hN
 refine h _ ⟨cm,ep,?_,?_,rfl⟩
 ·intro t x e
  have:=vh args vs.toList [] (List.replicate (fn.ntmps-vs.size) undef) ha t x e
  have heq:(vs++Array.replicate (fn.ntmps-vs.size) undef)=([]++vs.toList++List.replicate (fn.ntmps-vs.size) undef).toArray:=by
   apply Array.toList_inj.1;simp
  rw[heq];exact this
 ·simp[hn,hl];omega
theorem bQ.only {base:Nat→Prop} {I:Im} {w:World} {H:List Own} {x:Own} {k:Nat} (h:bQ base I w H) (hk:H[k]?=some x):bQ base I w [x]:=
 ⟨fun o ho=>by obtain rfl:o=x:=by simpa using ho
               exact h.all _ (List.mem_of_getElem? hk),by
  simp only[List.filterMap_cons,List.filterMap_nil]
  cases x.dH<;>simp⟩
def dN (h:List Own) (b:Nat):Prop:=b∈h.filterMap Own.dH
def ou {α:Type} (c:Ctx) (ok:α→Prop) (h1:α→List Own) (res:α→AV):Ending→World→Prop
 |.returned v,w'=>∃x I',ok x∧en c.F c.I c.W I' w'∧bQ c.own I' w' (h1 x)∧(res x).h I' v
 |_,_=>False
def cL {α:Type} (P:Program) (f:FuncId) (args:List AV) (h0:List Own) (ok:α→Prop) (h1:α→List Own) (res:α→AV):Prop:=
 ng P f∧∀(I:Im) (w:World) (vs:Array Value),dr w I→bQ (dN h0) I w h0→cN I args vs.toList→Calls P f vs w (ou ⟨w,I,0,dN h0⟩ ok h1 res)
theorem bQ.weaken {base Gi:Nat→Prop} {I:Im} {w:World} {H:List Own} (h:bQ base I w H) (hb:∀b,base b→Gi b):bQ Gi I w H:=
 ⟨fun o ho=>⟨(h.all o ho).1,fun b e=>⟨hb b ((h.all o ho).2 b e).1,((h.all o ho).2 b e).2⟩⟩,h.nodup⟩
theorem bQ.exact {base:Nat→Prop} {I:Im} {w:World} {H:List Own} (h:bQ base I w H):bQ (dN H) I w H:=
 ⟨fun o ho=>⟨(h.all o ho).1,fun b e=>⟨List.mem_filterMap.2 ⟨o,ho,e⟩,((h.all o ho).2 b e).2⟩⟩,h.nodup⟩
theorem cL.intro {α:Type} {P:Program} {f:FuncId} {fn:Func} {code:Code} {args:List AV} {h0:List Own} {ok:α→Prop} {h1:α→List Own} {res:α→AV} (N:Nat) (hf:P.funcs[f]?=some fn) (hb:fn.body=some code) (hn:fn.ntmps=N) (hN:Nat.ble args.length N=true) (nh:(fn.name== "runtime.NumGoroutine")=false)
 (h:∀(W:World) (I:Im) (a:Act),St ⟨W,I,N,dN h0⟩ I h0 (ki 0 args) a W→code.wp P (bodyPost P fn (ou ⟨W,I,N,dN h0⟩ ok h1 res)) a W):cL P f args h0 ok h1 res:=
 ⟨ng.of hf hb nh,fun I w vs hm ho ha=>Calls.mono (N1 N hf hb hn hN (en.refl hm) (ho.weaken fun b hb=>Or.inr hb) ha (h w I)) fun e w' he=>he⟩
section
variable {P:Program} {c:Ctx} {I:Im} {H:List Own} {Γ:Env} {a:Act} {w:World} {Q:Exit→Act→World→Prop} {ops:Array Oper} {rest:List Oper} {d:Nat} {y z:Operand} {ty T E:TypeId} {p:String} {af:Array Edge} {m sz:Nat} {zv:Value} {ys:Array Operand} {ts:Array TypeId} {l l':List (List AV)}
theorem yb {f:FuncId} {o:Oper} (r7:ng P f) (ho:o=⟨some d,.call ⟨.value (.func f),ys,ts⟩,ty,p,af,none⟩):(execOp a.eval o).run P w=.ok (.enter f (ys.map a.eval)) w:=by
 subst ho
 simp only[execOp,resolve,Act.eval]
 simp[Deferred.ofValue,invoke,r7 _ w,Sem.run_bind,Sem.run_pure]
def hole:List Own→List Nat→List Own
 |H,[]=>H
 |H,k::ks=>hole (H.set k Own.gone) ks
def fill:List Own→List Nat→List Own→List Own
 |H,[],r=>H++r
 |H,_::_,[]=>H
 |H,k::ks,o::r=>fill (H.set k o) ks r
theorem bQ.BC {base:Nat→Prop} {o:Own} {r:List Own} {k:Nat} (h:bQ base I w (H++r)) (hk:H[k]?=some o):bQ base I w (H.set k Own.gone++(r++[o])):=by
 obtain⟨hl,rfl⟩:=List.getElem?_eq_some_iff.1 hk
 have e1:H=H.take k++H[k]::H.drop (k+1):=by simp
 have e2:H.set k Own.gone=H.take k++Own.gone::H.drop (k+1):=by rw[List.set_eq_take_append_cons_drop,if_pos hl]
 refine⟨fun x hx=>?_,?_⟩
 ·rw[e2] at hx
  simp only[List.append_assoc,List.cons_append,List.mem_append,List.mem_cons,List.not_mem_nil,or_false] at hx
  rcases hx with hx|rfl|hx|hx|rfl
  ·exact h.all x (List.mem_append_left _ (List.mem_of_mem_take hx))
  ·exact⟨trivial,fun b e=>by cases e⟩
  ·exact h.all x (List.mem_append_left _ (List.mem_of_mem_drop hx))
  ·exact h.all x (List.mem_append_right _ hx)
  ·exact h.all _ (List.mem_append_left _ (List.getElem_mem _))
 ·have hn:=h.nodup
  rw[e2]
  rw[e1] at hn
  refine hn.perm ?_
  simp only[List.append_assoc,List.cons_append,List.filterMap_append,List.filterMap_cons,List.filterMap_nil]
  have:Own.gone.dH=none:=rfl
  rw[this]
  cases hb:(H[k]).dH with
  |none=>simp
  |some b=>
   simp only[]
   refine List.Perm.append_left _ ?_
   rw[←List.append_assoc]
   exact(List.perm_append_comm (l₁:=[b])).trans (by simp)
theorem bQ.BD {base:Nat→Prop}:∀{ks:List Nat} {H h0 r:List Own},bQ base I w (H++r)→ks.Nodup→ks.map (fun k=>H[k]?)=h0.map some→bQ base I w (hole H ks++(r++h0))
 |[],H,[],r,h,_,_=>by simpa[hole] using h
 |[],_,_::_,_,_,_,e=>by simp at e
 |_::_,_,[],_,_,_,e=>by simp at e
 |k::ks,H,o::h0,r,h,hd,e=>by
  rw[List.nodup_cons] at hd
  simp only[List.map_cons,List.cons.injEq] at e
  have:=bQ.BD (ks:=ks) (H:=H.set k Own.gone) (h0:=h0) (r:=r++[o]) (h.BC e.1) hd.2 (by
   rw[←e.2]
   refine List.map_congr_left fun j hj=>?_
   have bn:k≠j:=fun h=>hd.1 (by rw[h];exact hj)
   rw[List.getElem?_set_ne bn])
  simpa[hole] using this
theorem bQ.pick {base:Nat→Prop} {ks:List Nat} {h0:List Own} (h:bQ base I w H) (fS:ks.map (fun k=>H[k]?)=h0.map some) (cD:ks.Nodup):bQ base I w h0:=by
 have ov:=bQ.BD (r:=[]) (by simpa using h) cD fS
 rw[List.nil_append] at ov
 refine⟨fun o ho=>ov.all o (List.mem_append_right _ ho),?_⟩
 have hn:=ov.nodup
 rw[List.filterMap_append,List.nodup_append] at hn
 exact hn.2.1
theorem St.cP {α:Type} {fn:Func} {rs:List ResultVar} {xs:List AV} {ok:α→Prop} {h1:α→List Own} {res:α→AV} (x:α) (ks:List Nat) (hs:St c I H Γ a w) (hr:fn.results=rs.toArray) (h:aU P H Γ rs xs) (hx:ok x) (fS:ks.map (fun k=>H[k]?)=(h1 x).map some) (e:pJ xs=res x) (cD:decide ks.Nodup=true:=by decide):bodyPost P fn (ou c ok h1 res) .ret a w:=by
 obtain⟨v,e1,e2⟩:=hs.vB hr h
 exact⟨hs.defers,v,e1,x,I,hx,hs.step,hs.own.pick fS (of_decide_eq_true cD),e▸e2⟩
theorem St.ko {α:Type} {fn:Func} {rs:List ResultVar} {xs:List AV} {ok:α→Prop} {h1:α→List Own} {res:α→AV} (x:α) (ks:List Nat) (hs:St c I H Γ a w) (hr:fn.results=rs.toArray) (h:aU P H Γ rs xs) (hx:ok x) (fS:ks.map (fun k=>H[k]?)=(h1 x).map some) (e:pJ xs=res x) (cD:decide ks.Nodup=true:=by decide):bodyPost P fn (ou c ok h1 res) .normal a w:=hs.cP x ks hr h hx fS e cD
theorem Gj:∀{ks:List Nat} {H:List Own} {k:Nat},k∈ks→k<H.length→(hole H ks)[k]?=some Own.gone
 |[],_,_,h,_=>by simp at h
 |j::ks,H,k,h,hl=>by
  unfold hole
  by_cases hk:k∈ks
  ·exact Gj hk (by simpa using hl)
  ·obtain rfl:k=j:=(List.mem_cons.1 h).resolve_right hk
   have:∀(ks:List Nat) (H:List Own),k∉ks→(hole H ks)[k]?=H[k]?:=by
    intro ks
    induction ks with
    |nil=>intro H _;rfl
    |cons i ks ih=>
     intro H hn
     rw[List.mem_cons,not_or] at hn
     unfold hole
     rw[ih _ hn.2,List.getElem?_set_ne (fun h=>hn.1 h.symm)]
   rw[this ks _ hk,List.getElem?_set_self hl]
theorem bQ.filled {base:Nat→Prop}:∀{ks:List Nat} {H r:List Own},bQ base I w (H++r)→ks.Nodup→(∀k∈ks,H[k]?=some Own.gone)→bQ base I w (fill H ks r)
 |[],H,r,h,_,_=>by simpa[fill] using h
 |_::_,H,[],h,_,_=>by simpa[fill] using h
 |k::ks,H,o::r,h,hd,hg=>by
  rw[List.nodup_cons] at hd
  unfold fill
  have hk:=hg k (by simp)
  obtain⟨hl,he⟩:=List.getElem?_eq_some_iff.1 hk
  have e1:H=H.take k++Own.gone::H.drop (k+1):=by rw[←he];simp
  have e2:H.set k o=H.take k++o::H.drop (k+1):=by rw[List.set_eq_take_append_cons_drop,if_pos hl]
  refine bQ.filled ⟨fun x hx=>?_,?_⟩ hd.2 fun j hj=>?_
  ·refine h.all x ?_
   rcases List.mem_append.1 hx with hx|hx
   ·rcases List.mem_or_eq_of_mem_set hx with hx|rfl
    ·simp[hx]
    ·simp
   ·simp[hx]
  ·have hn:=h.nodup
   rw[e1] at hn
   rw[e2]
   refine hn.perm ?_
   simp only[List.append_assoc,List.cons_append,List.filterMap_append,List.filterMap_cons,List.filterMap_nil]
   have:Own.gone.dH=none:=rfl
   rw[this]
   cases hb:o.dH with
   |none=>simp
   |some b=>
    simp only[]
    refine List.Perm.append_left _ ?_
    exact List.perm_middle
  ·have bn:k≠j:=fun h=>hd.1 (by rw[h];exact hj)
   rw[List.getElem?_set_ne bn];exact hg j (by simp[hj])
theorem St.vM {α:Type} {I':Im} {w':World} {h0:List Own} {h1:α→List Own} {res:α→AV} {x:α} {v:Value} (ks:List Nat) (hs:St c I H Γ a w) (fS:ks.map (fun k=>H[k]?)=h0.map some) (cD:ks.Nodup)
 (cm:en (dN h0) I w I' w') (ho:bQ (Ctx.own ⟨w,I,0,dN h0⟩) I' w' (h1 x)) (hv:(res x).h I' v) (hd:Nat.blt d c.n=true):St c I' (fill (hole H ks) ks (h1 x)) ((d,res x)::Γ) (a.put (some d) v) w':=by
 have ov:=bQ.BD (r:=[]) (by simpa using hs.own) cD fS
 rw[List.nil_append] at ov
 have iK:∀b,dN h0 b→c.own b:=fun b hb=>by
  obtain⟨o,ho,e⟩:=List.mem_filterMap.1 hb
  exact((ov.all o (List.mem_append_right _ ho)).2 b e).1
 have BE:∀o∈hole H ks,∀b,o.dH=some b→¬dN h0 b:=fun o ho b e hb=>by
  have hn:=ov.nodup
  rw[List.filterMap_append,List.nodup_append] at hn
  exact hn.2.2 b (List.mem_filterMap.2 ⟨o,ho,e⟩) b hb rfl
 have ep:bQ c.own I' w' (hole H ks++h1 x):=by
  refine⟨fun o hm=>?_,?_⟩
  ·rcases List.mem_append.1 hm with hm|hm
   ·obtain⟨q1,q2⟩:=ov.all o (List.mem_append_left _ hm)
    refine⟨o.fN I I' w w' cm.le (fun b e=>cm.below.block b (q2 b e).2.2 (BE o hm b e)) q1,fun b e=>?_⟩
    obtain⟨r1,r2,r3⟩:=q2 b e
    exact⟨r1,(cm.eB b r3 (BE o hm b e)).trans r2,Nat.lt_of_lt_of_le r3 cm.below.size⟩
   ·obtain⟨q1,q2⟩:=ho.all o hm
    refine⟨q1,fun b e=>?_⟩
    obtain⟨r1,r2,r3⟩:=q2 b e
    exact⟨r1.elim (fun h=>.inl (Nat.le_trans hs.step.below.size h)) (iK b),r2,r3⟩
  ·rw[List.filterMap_append,List.nodup_append]
   have hn:=ov.nodup
   rw[List.filterMap_append,List.nodup_append] at hn
   refine⟨hn.1,ho.nodup,fun b hb b' rU e=>?_⟩
   subst e
   obtain⟨o,hm,e⟩:=List.mem_filterMap.1 hb
   obtain⟨o',j5,e'⟩:=List.mem_filterMap.1 rU
   have h3:=((ov.all o (List.mem_append_left _ hm)).2 b e).2.2
   rcases((ho.all o' j5).2 b e').1 with h|h
   ·have h:w.heap.size≤b:=h
    omega
   ·exact BE o hm b e h
 have r4:en c.F c.I c.W I' w':=by
  refine⟨Im.le_trans hs.step.le cm.le,fun b hb hf=>?_,cm.cE,⟨cm.below.os.trans hs.step.below.os,cm.below.tape.trans hs.step.below.tape,cm.below.output.trans hs.step.below.output,Nat.le_trans hs.step.below.size cm.below.size,fun b hb hf=>?_⟩⟩
  ·have hn:¬dN h0 b:=fun h=>by rcases iK b h with h|h;exact absurd h (by omega);exact hf h
   exact(cm.eB b (Nat.lt_of_lt_of_le hb hs.step.below.size) hn).trans (hs.step.eB b hb hf)
  ·have hn:¬dN h0 b:=fun h=>by rcases iK b h with h|h;exact absurd h (by omega);exact hf h
   exact(cm.below.block b (Nat.lt_of_lt_of_le hb hs.step.below.size) hn).trans (hs.step.below.block b hb hf)
 have N2:∀k∈ks,(hole H ks)[k]?=some Own.gone:=fun k hk=>by
  have:(H[k]?)∈h0.map some:=by rw[←fS];exact List.mem_map.2 ⟨k,hk,rfl⟩
  obtain⟨o,_,e⟩:=List.mem_map.1 this
  exact Gj hk (List.getElem?_eq_some_iff.1 e.symm).1
 exact⟨r4,bQ.filled ep cD N2,(hs.env.up cm.le).put (by rw[hs.size];simpa using hd) hv,by simp[Act.put,hs.size],hs.defers⟩
theorem St.cW {α:Type} {f:FuncId} {xs:List AV} {h0:List Own} {ok:α→Prop} {h1:α→List Own} {res:α→AV} (ks:List Nat) (hs:St c I H Γ a w) (hf:cL P f xs h0 ok h1 res) (ic:∀I a,cF I a Γ→true=true→cN I xs (ys.map a.eval).toList) (fS:ks.map (fun k=>H[k]?)=h0.map some) (cD:decide ks.Nodup=true) (hd:Nat.blt d c.n=true)
 (k:∀x I' a' w',ok x→St c I' (fill (hole H ks) ks (h1 x)) ((d,res x)::Γ) a' w'→wpList P ops Q rest a' w'):wpList P ops Q (⟨some d,.call ⟨.value (.func f),ys,ts⟩,ty,p,af,none⟩::rest) a w:=by
 refine gZ rfl ?_
 unfold Oper.wp
 rw[yb hf.1 rfl,Oper.upon_enter]
 have cD:=of_decide_eq_true cD
 have ep:bQ (dN h0) I w h0:=(hs.own.pick fS cD).exact
 refine Calls.mono (hf.2 I w _ hs.step.cE ep (ic I a hs.env rfl)) fun e w' he=>?_
 cases e with
 |panicked _=>exact he.elim
 |outgrown=>exact he.elim
 |returned v=>
  obtain⟨x,I',hx,cm,ho,hv⟩:=he
  exact k x I' _ w' hx (hs.vM ks fS cD cm ho hv hd)
def jo (P:Program) (f:FuncId) (args:List AV) (E:TypeId) (sz:Nat) (l:List (List AV)):Prop:=cL P f args [] (fun _:Value=>True) (fun v=>[Own.row v E sz l]) AV.val
theorem jo.intro {f:FuncId} {fn:Func} {code:Code} {args:List AV} {E:TypeId} {sz:Nat} {l:List (List AV)} (N:Nat) (hf:P.funcs[f]?=some fn) (hb:fn.body=some code) (hn:fn.ntmps=N) (hN:Nat.ble args.length N=true) (nh:(fn.name== "runtime.NumGoroutine")=false)
 (h:∀(W:World) (I:Im) (a:Act),St ⟨W,I,N,dN []⟩ I [] (ki 0 args) a W→code.wp P (bodyPost P fn (ou ⟨W,I,N,dN []⟩ (fun _:Value=>True) (fun v=>[Own.row v E sz l]) AV.val)) a W):jo P f args E sz l:=cL.intro N hf hb hn hN nh h
theorem Gk:dN []=jL:=by funext b;simp[dN,jL]
theorem en.none {I I':Im} {w w':World} (h:en (dN []) I w I' w'):Step I w I' w':=en.all (Gk▸h)
theorem N3 {I0 I:Im} {W0 w:World} {v:Value} {E:TypeId} {sz:Nat} {l:List (List AV)} (cm:en (dN []) I0 W0 I w) (ho:bQ (Ctx.own ⟨W0,I0,0,dN []⟩) I w [Own.row v E sz l]):∃I',Step I0 W0 I' w∧(AV.rows sz l).h I' v:=by
 have hs:St ⟨W0,I0,0,dN []⟩ I [Own.row v E sz l] [] {tmps:=#[],defers:=[]} w:=⟨cm,ho,fun t x e=>by simp[Env.get] at e,rfl,rfl⟩
 obtain⟨I',bX,hv⟩:=hs.qF 0 rfl
 exact⟨I',en.none bX.step,hv⟩
theorem jo.fn {f:FuncId} {args:List AV} {E:TypeId} {sz:Nat} {l:List (List AV)} (h:jo P f args E sz l):Fn P f args (.rows sz l):=
 ⟨h.1,fun I w vs hm ha=>(h.2 I w vs hm (bQ.nil _ _ _) ha).mono fun e w' he=>by
   cases e with
   |panicked _=>exact he.elim
   |outgrown=>exact he.elim
   |returned v=>
    obtain⟨x,I',_,cm,ho,hx⟩:=he
    obtain rfl:v=x:=hx
    obtain⟨I2,N4,hv⟩:=N3 cm ho
    exact⟨I2,N4,hv⟩⟩
theorem St.vN {fn:Func} {v:Value} {r:Nat} (k:Nat) (hs:St c I H Γ a w) (hr:fn.results=#[.tmp r]) (h2:Env.get r Γ=some (.val v)) (hk:H[k]?=some (Own.row v E sz l)) (hl:l=l'):
 bodyPost P fn (ou c (fun _:Value=>True) (fun v=>[Own.row v E sz l']) AV.val) .ret a w:=by
 subst hl
 obtain⟨v',h1,hv⟩:=hs.vB (P:=P) (fn:=fn) (rs:=[.tmp r]) (xs:=[.val v]) hr (.cons (.t h2) .nil)
 obtain rfl:v'=v:=hv
 exact⟨hs.defers,v',h1,v',I,trivial,hs.step,hs.own.only hk,rfl⟩
theorem St.mI {f:FuncId} {xs:List AV} (hs:St c I H Γ a w) (hf:jo P f xs E sz l) (ic:∀I a,cF I a Γ→true=true→cN I xs (ys.map a.eval).toList) (hd:Nat.blt d c.n=true)
 (k:∀I' v a' w',St c I' (H++[Own.row v E sz l]) ((d,.val v)::Γ) a' w'→wpList P ops Q rest a' w'):wpList P ops Q (⟨some d,.call ⟨.value (.func f),ys,ts⟩,ty,p,af,none⟩::rest) a w:=
 hs.cW [] hf ic rfl (by decide) hd fun v I' a' w' _ h=>k I' v a' w' h
def gO (P:Program) (f:FuncId) (args:List AV) (h0 h1:List Own) (res:AV):Prop:=cL P f args h0 (fun _:Unit=>True) (fun _=>h1) (fun _=>res)
theorem gO.intro {f:FuncId} {fn:Func} {code:Code} {args:List AV} {h0 h1:List Own} {res:AV} (N:Nat) (hf:P.funcs[f]?=some fn) (hb:fn.body=some code) (hn:fn.ntmps=N) (hN:Nat.ble args.length N=true) (nh:(fn.name== "runtime.NumGoroutine")=false)
 (h:∀(W:World) (I:Im) (a:Act),St ⟨W,I,N,dN h0⟩ I h0 (ki 0 args) a W→code.wp P (bodyPost P fn (ou ⟨W,I,N,dN h0⟩ (fun _:Unit=>True) (fun _=>h1) (fun _=>res))) a W):gO P f args h0 h1 res:=cL.intro N hf hb hn hN nh h
theorem St.pQ {fn:Func} {rs:List ResultVar} {xs:List AV} {res:AV} {h1:List Own} (hs:St c I H Γ a w) (hr:fn.results=rs.toArray) (h:aU P H Γ rs xs) (hH:H=h1) (e:pJ xs=res):bodyPost P fn (ou c (fun _:Unit=>True) (fun _=>h1) (fun _=>res)) .ret a w:=by
 obtain⟨v,e1,e2⟩:=hs.vB hr h
 exact⟨hs.defers,v,e1,(),I,trivial,hs.step,hH▸hs.own,e▸e2⟩
theorem St.dZ {f:FuncId} {xs:List AV} {h0 h1:List Own} {res:AV} (ks:List Nat) (hs:St c I H Γ a w) (hf:gO P f xs h0 h1 res) (ic:∀I a,cF I a Γ→true=true→cN I xs (ys.map a.eval).toList) (fS:ks.map (fun k=>H[k]?)=h0.map some) (cD:decide ks.Nodup=true) (hd:Nat.blt d c.n=true)
 (k:∀I' a' w',St c I' (fill (hole H ks) ks h1) ((d,res)::Γ) a' w'→wpList P ops Q rest a' w'):wpList P ops Q (⟨some d,.call ⟨.value (.func f),ys,ts⟩,ty,p,af,none⟩::rest) a w:=
 hs.cW ks hf ic fS cD hd fun _ I' a' w' _ h=>k I' a' w' h
def yc {α:Type} (P:Program) (f:FuncId) (args:List AV) (ok:α→Prop) (res:α→AV):Prop:=cL P f args [] ok (fun _=>[]) res
theorem yc.intro {α:Type} {f:FuncId} {fn:Func} {code:Code} {args:List AV} {ok:α→Prop} {res:α→AV} (N:Nat) (hf:P.funcs[f]?=some fn) (hb:fn.body=some code) (hn:fn.ntmps=N) (hN:Nat.ble args.length N=true) (nh:(fn.name== "runtime.NumGoroutine")=false)
 (h:∀(W:World) (I:Im) (a:Act),St ⟨W,I,N,dN []⟩ I [] (ki 0 args) a W→code.wp P (bodyPost P fn (ou ⟨W,I,N,dN []⟩ ok (fun _=>[]) res)) a W):yc P f args ok res:=cL.intro N hf hb hn hN nh h
theorem fl.mI {tail:List Oper} {M:Act→List Own} {k:Nat} {os:List Oper} {f:FuncId} {xs:List AV} (hf:jo P f xs E sz l) (ic:∀I a,cF I a (Γ.only (Oper.looksAt ops ⟨some d,.call ⟨.value (.func f),ys,ts⟩,ty,p,af,none⟩))→true=true→cN I xs (ys.map a.eval).toList)
 (r:fl P c H ops Q tail (fun a=>M a++[Own.row (a.tmps.getD d undef) E sz l]) (k+1) ((d,AV.any)::Γ) os):fl P c H ops Q tail M k Γ (⟨some d,.call ⟨.value (.func f),ys,ts⟩,ty,p,af,none⟩::os):=by
 obtain⟨ow,h1,h2⟩:=r
 refine⟨(AV.any,some (fun v=>Own.row v E sz l))::ow,⟨?_,h1⟩,fun I' a' w' hs=>h2 I' a' w' (by simpa[made,lK] using hs)⟩
 intro base I a w K Q he hm hw kk
 rw[if_pos (by simp[Region.wanted])]
 unfold Oper.wp
 rw[yb hf.1 rfl,Oper.upon_enter]
 refine Calls.mono (hf.2 I w _ hm (bQ.nil _ _ _) (ic I a he rfl)) fun e w' he=>?_
 cases e with
 |panicked _=>exact he.elim
 |outgrown=>exact he.elim
 |returned v=>
  obtain⟨x,I',_,cm,ho,hx⟩:=he
  obtain rfl:v=x:=hx
  refine kk v I' w' trivial (en.none cm) fun f hf=>?_
  cases hf
  obtain⟨q1,q2⟩:=ho.all _ (List.mem_singleton.2 rfl)
  exact⟨q1,fun b e=>⟨(q2 b e).1.elim id fun h=>by rw[Gk] at h;exact h.elim,(q2 b e).2⟩⟩
theorem St.yd {d:Nat} (hs:St c I (H++([]++[Own.row (a.tmps.getD d undef) E sz l])) Γ a w):∃v,St c I (H++[Own.row v E sz l]) ((d,.val v)::Γ) a w:=by
 refine⟨a.tmps.getD d undef,hs.step,by simpa using hs.own,fun t x e=>?_,hs.size,hs.defers⟩
 simp only[Env.get] at e
 cases lh:Nat.beq d t with
 |true=>
  rw[lh] at e;simp only[cond_true] at e;cases e
  obtain rfl:d=t:=Nat.eq_of_beq_eq_true lh
  rfl
 |false=>rw[lh] at e;exact hs.env t x (by simpa using e)
theorem Gl {v:Value} (h:(Own.row v E sz l).ok I w):∃q cap,v=.slice q l.length cap∧l.length≤cap:=by
 obtain⟨_,⟨rfl,rfl|⟨q,rfl,_⟩⟩|⟨b,cap,cur,rfl,h0,hb,h3,_⟩⟩:=h
 ·exact⟨none,0,rfl,Nat.le_refl _⟩
 ·exact⟨some q,0,rfl,Nat.le_refl _⟩
 ·exact⟨_,cap,rfl,h3⟩
theorem St.dS {v:Value} (k:Nat) (hs:St c I H Γ a w) (hk:H[k]?=some (Own.row v E sz l)):(AV.val v).One:=by
 obtain⟨q,cap,e,_⟩:=Gl (hs.own.all _ (List.mem_of_getElem? hk)).1
 exact iY (by rw[e];rfl)
theorem St.g8 {v:Value} (k:Nat) (hs:St c I H Γ a w) (hk:H[k]?=some (Own.row v E sz l)) (hl:0<l.length):∃b cap,v=.slice (some ⟨b,0,none⟩) l.length cap:=by
 obtain⟨_,⟨rfl,_⟩|⟨b,cap,cur,e,_⟩⟩:=(hs.own.all _ (List.mem_of_getElem? hk)).1
 ·simp at hl
 ·exact⟨b,cap,e⟩
theorem St.vP {v:Value} (k:Nat) (hs:St c I H Γ a w) (hk:H[k]?=some (Own.row v E sz l)):∃q cap,v=.slice q l.length cap∧l.length≤cap:=Gl (hs.own.all _ (List.mem_of_getElem? hk)).1
end
section
variable {α:Type} {A B X R:List α}
theorem sj (n:Nat) (h:A.length=n):(A++B).drop n=B:=by subst h;exact List.drop_left
theorem ja (n:Nat) (h:A.length=n):(A++B).take n=A:=by subst h;exact List.take_left
theorem BF {i j:Nat} (hi:A.length=i) (hj:i+X.length=j) (hR:X.length≤R.length):over (over (A++B++R) j B) i X=A++X++B++R.drop X.length:=by
 have e1:over (A++B++R) j B=(A++B++R).take j++B++R.drop X.length:=by
  unfold over
  congr 1
  rw[List.append_assoc A B R,List.drop_append,List.drop_append]
  have h1:A.drop (j+B.length)=[]:=List.drop_eq_nil_of_le (by omega)
  have h2:B.drop (j+B.length-A.length)=[]:=List.drop_eq_nil_of_le (by omega)
  rw[h1,h2,List.nil_append,List.nil_append]
  congr 1;omega
 have hl:((A++B++R).take j).length=j:=by simp;omega
 rw[e1]
 unfold over
 have e2:((A++B++R).take j++B++R.drop X.length).take i=A:=by
  rw[List.append_assoc,List.take_append,List.take_take,Nat.min_eq_left (by omega),hl,show i-j=0 by omega,List.take_zero,List.append_nil,List.append_assoc]
  exact ja i hi
 have e3:((A++B++R).take j++B++R.drop X.length).drop (i+X.length)=B++R.drop X.length:=by
  rw[hj,List.append_assoc]
  exact sj j hl
 rw[e2,e3];simp
theorem BG {i j:Nat} (hi:A.length=i) (hj:i+X.length=j) (hR:X.length+B.length≤R.length):over (over (A++R) i X) j B=A++X++B++R.drop (X.length+B.length):=by
 have e1:over (A++R) i X=A++X++R.drop X.length:=by
  unfold over
  rw[ja i hi]
  congr 1
  rw[List.drop_append,List.drop_eq_nil_of_le (by omega),List.nil_append]
  congr 1;omega
 rw[e1]
 unfold over
 have hl:(A++X).length=j:=by simp;omega
 rw[ja j hl,List.drop_append,List.drop_eq_nil_of_le (by omega),List.nil_append,List.drop_drop]
 congr 2
 omega
end
section
variable {P:Program} {c:Ctx} {I:Im} {H:List Own} {Γ:Env} {a:Act} {w:World} {E:TypeId} {sz:Nat} {l:List (List AV)} {Q:Exit→Act→World→Prop} {ops:Array Oper} {rest:List Oper}
theorem Gm {base:Nat→Prop} {v:Value} {k:Nat} (hm:dr w I) (hw:bQ base I w H) (hk:H[k]?=some (Own.row v E sz l)):∃I2,Im.le I I2∧dr w I2∧(AV.rows sz l).h I2 v:=by
 have ho:=hw.only hk
 have hs:St ⟨w,I,0,fun _=>True⟩ I [Own.row v E sz l] [] {tmps:=#[],defers:=[]} w:=
  ⟨en.refl hm,ho.weaken fun b _=>.inr trivial,fun t x e=>by simp[Env.get] at e,rfl,rfl⟩
 obtain⟨I2,eU,hv⟩:=hs.qF 0 rfl
 exact⟨I2,eU.step.le,eU.step.cE,hv⟩
theorem Gn {xs:List AV} {u v:Value} {y:AV} (q:Nat) (hq:xs[q]?=some (.val u)) (hy:y.h I u) (h:(AV.agg xs).h I v):(AV.agg (xs.set q y)).h I v:=by
 obtain⟨cs,e,hl⟩:=h
 refine⟨cs,e,?_⟩
 obtain⟨u',hu,hv,h1⟩:=hl.get hq
 obtain rfl:u'=u:=hv
 refine(hl.set q hy h1).cast rfl ?_
 exact AU hu
theorem Gp {g:Bool} {d:Option Tmp} {f:FuncId} {ys:Array Operand} {ts:Array TypeId} {ty:TypeId} {p:String} {af:Array Edge} {gd:Option (Nat×Bool)} {cs r:List AV} {res:AV} {v:Value} (k q:Nat)
 (h:∀I a,cF I a Γ→g=true→cN I (AV.agg cs::r) (ys.map a.eval).toList) (hk:H[k]?=some (Own.row v E sz l)) (hq:cs[q]?=some (.val v)) (hf:Fn P f (AV.agg (cs.set q (AV.rows sz l))::r) res) (vQ:∀I J u,res.h I u→res.h J u):Ok P H Γ g ⟨d,.call ⟨.value (.func f),ys,ts⟩,ty,p,af,gd⟩ res:=
 fun base I a w K Q he hm hw hg kk=>by
  obtain⟨I2,hle,BH,hv⟩:=Gm hm hw hk
  have hx:∀I a,cF I a Γ→(AV.rows sz l).h I v→cN I (AV.agg (cs.set q (AV.rows sz l))::r) (ys.map a.eval).toList:=fun I a he hv=>by
   have:=h I a he hg
   generalize (ys.map a.eval).toList=vs at this⊢
   cases vs with
   |nil=>exact this
   |cons u us=>exact⟨Gn q hq hv this.1,this.2⟩
  have hc:=hf.2 I2 w (ys.map a.eval) BH (hx I2 a (he.up hle) hv)
  unfold Oper.wp
  have hr:(execOp a.eval (⟨d,.call ⟨.value (.func f),ys,ts⟩,ty,p,af,gd⟩:Oper)).run P w=.ok (.enter f (ys.map a.eval)) w:=by
   simp only[execOp,resolve,Act.eval]
   simp[go_sem,hf.1 _ w]
  rw[hr,Oper.upon_enter]
  refine Calls.mono hc fun e w' he=>?_
  cases e with
  |returned u=>
   obtain⟨I3,hs,hx⟩:=he
   refine kk u (fun b=>if b<w.heap.size then I b else I3 b) w' (vQ _ _ _ hx) ⟨fun b cs e=>?_,fun b hb=>if_pos hb,fun b cs e=>?_,hs.below⟩
   ·show(if b<w.heap.size then I b else I3 b)=_
    rw[if_pos (hm.lt e)];exact e
   ·change(if b<w.heap.size then I b else I3 b)=some cs at e
    split at e
    ·exact hs.cE b cs (hs.le b cs (hle b cs e))
    ·exact hs.cE b cs e
  |panicked _=>exact he.elim
  |outgrown=>exact he.elim
theorem ye {g:Bool} {d:Option Tmp} {f:FuncId} {ys:Array Operand} {ts:Array TypeId} {ty:TypeId} {p:String} {af:Array Edge} {gd:Option (Nat×Bool)} {r:List AV} {res:AV} {v:Value} (k:Nat)
 (h:∀I a,cF I a Γ→g=true→cN I (AV.val v::r) (ys.map a.eval).toList) (hk:H[k]?=some (Own.row v E sz l)) (hf:Fn P f (AV.rows sz l::r) res) (vQ:∀I J u,res.h I u→res.h J u):Ok P H Γ g ⟨d,.call ⟨.value (.func f),ys,ts⟩,ty,p,af,gd⟩ res:=
 fun base I a w K Q he hm hw hg kk=>by
  obtain⟨I2,hle,BH,hv⟩:=Gm hm hw hk
  have hx:∀I a,cF I a Γ→(AV.rows sz l).h I v→cN I (AV.rows sz l::r) (ys.map a.eval).toList:=fun I a he hv=>by
   have:=h I a he hg
   generalize (ys.map a.eval).toList=vs at this⊢
   cases vs with
   |nil=>exact this
   |cons u us=>exact⟨by have e:u=v:=this.1;rw[e];exact hv,this.2⟩
  have hc:=hf.2 I2 w (ys.map a.eval) BH (hx I2 a (he.up hle) hv)
  unfold Oper.wp
  have hr:(execOp a.eval (⟨d,.call ⟨.value (.func f),ys,ts⟩,ty,p,af,gd⟩:Oper)).run P w=.ok (.enter f (ys.map a.eval)) w:=by
   simp only[execOp,resolve,Act.eval]
   simp[go_sem,hf.1 _ w]
  rw[hr,Oper.upon_enter]
  refine Calls.mono hc fun e w' he=>?_
  cases e with
  |returned u=>
   obtain⟨I3,hs,hx⟩:=he
   refine kk u (fun b=>if b<w.heap.size then I b else I3 b) w' (vQ _ _ _ hx) ⟨fun b cs e=>?_,fun b hb=>if_pos hb,fun b cs e=>?_,hs.below⟩
   ·show(if b<w.heap.size then I b else I3 b)=_
    rw[if_pos (hm.lt e)];exact e
   ·change(if b<w.heap.size then I b else I3 b)=some cs at e
    split at e
    ·exact hs.cE b cs (hs.le b cs (hle b cs e))
    ·exact hs.cE b cs e
  |panicked _=>exact he.elim
  |outgrown=>exact he.elim
theorem St.yf {T ty:TypeId} {d m n:Nat} {p:String} {af:Array Edge} {zv:Value} {ag:Bool} {len:Nat} {gw:List (List AV)} {parts:List (Nat×Operand)} {ps:List (Nat×List AV)} (hs:St c I H Γ a w) (hd:Nat.blt d c.n=true) (hT:P.underlying T=some (.slice E)) (hE:Ty P E ag n m zv) (fB:zv.cells.size=sz) (np:∀u∈zv.cells.toList,u.oneCell'=true)
 (cr:Nat.blt 0 sz=true) (k4:Nat.blt 0 len=true) (qG:Nat.ble (len*sz) 16777216=true) (hp:aZ (nk sz) Γ true (len*sz) parts ps) (iZ:filled (List.replicate (len*sz) AV.any) ps=gw.flatten) (hlen:gw.length=len) (hr:∀r∈gw,r.length=sz) (hn:n=sz)
 (k:∀b I a' w',St c I (H++[Own.row (.slice (some ⟨b,0,none⟩) len len) E sz gw]) ((d,.val (.slice (some ⟨b,0,none⟩) len len))::Γ) a' w'→wpList P ops Q rest a' w'):
 wpList P ops Q (⟨some d,.buildSlice T len parts.toArray,ty,p,af,none⟩::rest) a w:=by
 subst hn
 have A2:=Nat.le_of_ble_eq_true qG
 have ny:0<len:=by simpa using k4
 obtain⟨cs,e1,e2,e3⟩:=FC (w:=w) hs.env rfl hT hE fB np A2 hp
 refine gZ rfl ?_
 unfold Oper.wp
 simp only[execOp,Sem.run_bind,e1,Result.andThen_ok,Sem.run_pure,Oper.upon_value]
 refine k w.heap.size I _ _ (hs.kY (hs.step.trans (Step.alloc hs.step.cE _)) (Im.le_refl _) (hs.own.push (x:=Own.row (.slice (some ⟨w.heap.size,0,none⟩) len len) E n gw) hs.room (vb ny) hs.step.cE ⟨hr,.inr ⟨w.heap.size,len,cs,by rw[hlen],ny,qC w _,by omega,?_,e3,?_⟩⟩) hd rfl)
 ·simp only[maxLen]
  have h:0<n:=by simpa using cr
  have:len*1≤len*n:=Nat.mul_le_mul_left _ h
  omega
 ·rw[iZ] at e2
  refine e2.cast rfl ?_
  rw[List.take_of_length_le]
  have:=e2.length
  simp[hlen] at e3⊢;omega
theorem N5 {y:Operand} {ys:List Operand} {x:AV} {xs:List AV} (h:x.h I (a.eval y)) (k:cN I xs (ys.toArray.map a.eval).toList):cN I (x::xs) ((y::ys).toArray.map a.eval).toList:=by
 simp only[List.map_toArray,List.map_cons] at k⊢
 exact⟨h,k⟩
theorem aV.dZ {Hf:List (Act→Own)} {os:List Oper} {ms:Meta} {d d':Nat} {f:FuncId} {ys:Array Operand} {ts:Array TypeId} {ty:TypeId} {p:String} {af:Array Edge} {xs:Value→List AV} {res:AV} (k:Nat) (hk:Hf[k]?=some fun a=>Own.row (a.tmps.getD d' undef) E sz l) (hd:Nat.blt d c.n=true) (hf:∀v,gO P f (xs v) [Own.row v E sz l] [] res)
 (ic:∀I a,cF I a (Γ.only ((⟨some d,.call ⟨.value (.func f),ys,ts⟩,ty,p,af,none⟩:Oper).looksAt ops))→true=true→cN I (xs (a.tmps.getD d' undef)) (ys.map a.eval).toList)
 (r:aV P c ops Q ((d,res)::Γ) (Hf.set k fun _=>Own.gone) os ms):aV P c ops Q Γ Hf (⟨some d,.call ⟨.value (.func f),ys,ts⟩,ty,p,af,none⟩::os) (([k],some (k,[]))::ms):=
 aV.cons (u:=some ⟨k,[],fun _=>Own.gone⟩) (x:=res) (fun v e=>by cases e;intro a a' _;rfl) (fun F W0 I0 I a w Q hs kk=>by
  have fS:(dy [k] a F 0 Hf)[k]?=some (Own.row (a.tmps.getD d' undef) E sz l):=jQ hk
  have cD:[k].Nodup:=by simp
  refine gZ rfl ?_
  unfold Oper.wp
  rw[yb (hf (a.tmps.getD d' undef)).1 rfl,Oper.upon_enter]
  have ep:=(bQ.pick (ks:=[k]) (h0:=[Own.row (a.tmps.getD d' undef) E sz l]) hs.own (by simpa using jQ hk) cD).exact
  refine Calls.mono ((hf _).2 I w _ hs.step.cE ep (ic I a hs.env rfl)) fun e w' he=>?_
  cases e with
  |panicked _=>exact he.elim
  |outgrown=>exact he.elim
  |returned v=>
   obtain⟨x,I',hx,cm,ho,hv⟩:=he
   have h2:St ⟨W0.1,I0,c.n,W0.2⟩ I' ((dy [k] a F 0 Hf).set k Own.gone) ((d,res)::Γ.only ((⟨some d,.call ⟨.value (.func f),ys,ts⟩,ty,p,af,none⟩:Oper).looksAt ops)) (a.put (some d) v) w':=
    hs.vM (h0:=[Own.row (a.tmps.getD d' undef) E sz l]) (h1:=fun _:Unit=>[]) (res:=fun _=>res) (x:=()) [k] (by simpa using fS) cD cm ho hv hd
   exact kk I' _ w' (h2.pass (lW (f:=fun _=>Own.gone) rfl))) r
theorem aV.sk {Hf:List (Act→Own)} {os:List Oper} {ms:Meta} {d:Nat} {f:FuncId} {ys:Array Operand} {ts:Array TypeId} {ty:TypeId} {p:String} {af:Array Edge} {xs:List AV} {res:AV} {O O':Own} (k:Nat) (hk:Hf[k]?=some fun _=>O) (hd:Nat.blt d c.n=true) (hf:gO P f xs [O] [O'] res)
 (ic:∀I a,cF I a (Γ.only ((⟨some d,.call ⟨.value (.func f),ys,ts⟩,ty,p,af,none⟩:Oper).looksAt ops))→true=true→cN I xs (ys.map a.eval).toList)
 (r:aV P c ops Q ((d,res)::Γ) (Hf.set k fun _=>O') os ms):aV P c ops Q Γ Hf (⟨some d,.call ⟨.value (.func f),ys,ts⟩,ty,p,af,none⟩::os) (([k],some (k,[]))::ms):=
 aV.cons (u:=some ⟨k,[],fun _=>O'⟩) (x:=res) (fun v e=>by cases e;intro a a' _;rfl) (fun F W0 I0 I a w Q hs kk=>by
  have fS:(dy [k] a F 0 Hf)[k]?=some O:=jQ hk
  have cD:[k].Nodup:=by simp
  refine gZ rfl ?_
  unfold Oper.wp
  rw[yb hf.1 rfl,Oper.upon_enter]
  have ep:=(bQ.pick (ks:=[k]) (h0:=[O]) hs.own (by simpa using jQ hk) cD).exact
  refine Calls.mono (hf.2 I w _ hs.step.cE ep (ic I a hs.env rfl)) fun e w' he=>?_
  cases e with
  |panicked _=>exact he.elim
  |outgrown=>exact he.elim
  |returned v=>
   obtain⟨x,I',hx,cm,ho,hv⟩:=he
   have h2:St ⟨W0.1,I0,c.n,W0.2⟩ I' (((dy [k] a F 0 Hf).set k Own.gone).set k O'++[]) ((d,res)::Γ.only ((⟨some d,.call ⟨.value (.func f),ys,ts⟩,ty,p,af,none⟩:Oper).looksAt ops)) (a.put (some d) v) w':=
    hs.vM (h0:=[O]) (h1:=fun _:Unit=>[O']) (res:=fun _=>res) (x:=()) [k] (by simpa using fS) cD cm ho hv hd
   rw[List.append_nil,List.set_set] at h2
   exact kk I' _ w' (h2.pass (lW (f:=fun _=>O') rfl))) r
end
def ox (m n:Int):Int:=((m.toNat^^^n.toNat:Nat):Int)
theorem Gq {m n:Int}:0≤ox m n:=Int.natCast_nonneg _
theorem Gr {m n:Int} (hm:m<4611686018427387904) (hn:n<4611686018427387904):ox m n<4611686018427387904:=by
 have h:=Nat.xor_lt_two_pow (x:=m.toNat) (y:=n.toNat) (n:=62) (by omega) (by omega)
 unfold ox;omega
theorem Gs {P:Program} {H:List Own} {Γ:Env} {g:Bool} {d:Option Tmp} {y z:Operand} {ty T T':TypeId} {p:String} {af:Array Edge} {gd:Option (Nat×Bool)} {m n:Int} (hy:At Γ g y (.int m)) (hz:At Γ g z (.int n)) (hb:g=true→0≤m∧m<4611686018427387904∧0≤n∧n<4611686018427387904):
 Ok P H Γ g ⟨d,.binOp .xor T y z T',ty,p,af,gd⟩ (.int (ox m n)):=
 fR fun I a w he hg=>by
  have h1:a.eval y=.int .i64 m:=hy I a he hg
  have h2:a.eval z=.int .i64 n:=hz I a he hg
  obtain⟨g1,g2,g3,g4⟩:=hb hg
  have hx:=Gr (m:=m) (n:=n) (by omega) (by omega)
  have hp:=Gq (m:=m) (n:=n)
  have h3:IntKind.i64.wrap (ox m n)=ox m n:=IntWalk.i64_in _ (by omega)
  have h4:(((BitVec.ofInt IntKind.i64.bits m^^^BitVec.ofInt IntKind.i64.bits n).toNat:Nat):Int)=ox m n:=by
   unfold ox
   rw[BitVec.toNat_xor]
   have e1:(BitVec.ofInt IntKind.i64.bits m).toNat=m.toNat:=by
    rw[BitVec.toNat_ofInt];show(m%(2^64:Nat)).toNat=_;rw[Int.emod_eq_of_lt g1 (by simp;omega)]
   have e2:(BitVec.ofInt IntKind.i64.bits n).toNat=n.toNat:=by
    rw[BitVec.toNat_ofInt];show(n%(2^64:Nat)).toNat=_;rw[Int.emod_eq_of_lt g3 (by simp;omega)]
   rw[e1,e2]
  simp only[execOp,h1,h2];simp[go_sem,eqGuard,binOp,Op.intBits];exact(congrArg IntKind.i64.wrap h4).trans h3
end Go.Proofs.YtoeioeimmfpefaaGreat
