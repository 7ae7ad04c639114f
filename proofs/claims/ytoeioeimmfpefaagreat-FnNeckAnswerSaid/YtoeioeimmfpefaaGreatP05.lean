/- Part 5: rules of the proofs, contracts of functions, plain facts. -/
import Derived.Test.YtoeioeimmfpefaaGreatP04
set_option linter.unusedVariables false
set_option linter.unusedSimpArgs false
namespace Go.Proofs.YtoeioeimmfpefaaGreat
open Go Go.RowKit
theorem At.ca {Γ:Env} {g:Bool} {cs:Array Value} {l:List AV} (h:∀I,bD I l cs.toList):At Γ g (.const (.agg cs)) (.agg l):=fun I _ _ _=>⟨cs,rfl,h I⟩
theorem At.nil {Γ:Env} {g:Bool} {o:Operand} {sz:Nat} (h:At Γ g o (.val (.slice none 0 0))):At Γ g o (.rows sz []):=fun I a he hg=>by
 have e:a.eval o=_:=h I a he hg
 rw[e];exact eb sz I
theorem At.mono {Γ:Env} {g:Bool} {o:Operand} {x y:AV} (h:At Γ g o x) (k:∀I v,x.h I v→y.h I v):At Γ g o y:=fun I a he hg=>k I _ (h I a he hg)
section
variable {P:Program} {H:List Own} {Γ:Env} {g:Bool} {d:Option Tmp} {y z z':Operand} {ty T T' E:TypeId} {p:String} {af:Array Edge} {gd:Option (Nat×Bool)} {n m:Nat} {zv:Value}
def aZ (place:Nat→Option (Nat×Nat)) (Γ:Env) (g:Bool) (n:Nat):List (Nat×Operand)→List (Nat×List AV)→Prop
 |[],[]=>True
 |(i,y)::r,(o,lx)::s=>(place i=some (o,lx.length)∧o+lx.length≤n∧∀I a,cF I a Γ→g=true→bD I lx (a.eval y).cells.toList)∧aZ place Γ g n r s
 |_,_=>False
theorem aZ.nil {place:Nat→Option (Nat×Nat)}:aZ place Γ g n [] []:=trivial
theorem aZ.c {place:Nat→Option (Nat×Nat)} {i o:Nat} {x:AV} {r:List (Nat×Operand)} {s:List (Nat×List AV)} (hp:place i=some (o,1)) (ho:Nat.ble (o+1) n=true) (h:At Γ g y x) (hx:x.One) (k:aZ place Γ g n r s):
 aZ place Γ g n ((i,y)::r) ((o,[x])::s):=⟨⟨hp,Nat.le_of_ble_eq_true ho,fun I a he hg=>by
  have e:=h I a he hg
  rw[vq (hx _ _ e)];exact⟨⟨e,hx _ _ e⟩,trivial⟩⟩,k⟩
theorem aZ.s {place:Nat→Option (Nat×Nat)} {i o q:Nat} {lx:List AV} {r:List (Nat×Operand)} {s:List (Nat×List AV)} (hp:place i=some (o,q)) (hl:lx.length=q) (ho:Nat.ble (o+q) n=true) (h:At Γ g y (.agg lx)) (k:aZ place Γ g n r s):
 aZ place Γ g n ((i,y)::r) ((o,lx)::s):=⟨⟨by rw[hp,hl],by rw[hl];exact Nat.le_of_ble_eq_true ho,fun I a he hg=>by
  obtain⟨cs,e,hl⟩:=h I a he hg
  rw[e];exact hl⟩,k⟩
def filled (l0:List AV) (ps:List (Nat×List AV)):List AV:=ps.foldl (fun l q=>eo l q.1 q.2) l0
theorem Ni (v:Array Value) (o:Nat):∀(cs:Array Value),o+v.size≤cs.size→(v.zipIdx.foldl (fun cs (c,j)=>cs.setIfInBounds (o+j) c) cs).toList=eo cs.toList o v.toList:=by
 intro cs hle
 have key:∀(l:List Value) (k:Nat) (cs:Array Value),o+k+l.length≤cs.size→((l.zipIdx k).foldl (fun cs (x:Value×Nat)=>cs.setIfInBounds (o+x.2) x.1) cs).toList=eo cs.toList (o+k) l:=by
  intro l
  induction l with
  |nil=>intro k cs _;simp[eo]
  |cons x l ih=>
   intro k cs hk
   simp only[List.length_cons] at hk
   rw[List.zipIdx_cons,List.foldl_cons,ih (k+1) _ (by simp;omega)]
   simp only[eo,Array.toList_setIfInBounds]
   apply List.ext_getElem?
   intro t
   simp only[List.getElem?_append,List.length_take,List.length_set,List.getElem?_take,List.getElem?_drop,List.getElem?_set,List.length_append,List.length_cons,Array.length_toList,List.getElem?_cons]
   (repeat' split)<;>first|rfl|omega|(congr 1;omega)|skip
 have:=key v.toList 0 cs (by simpa using hle)
 rw[Nat.add_zero] at this
 rw[←this]
 congr 1
 rw[←Array.foldl_toList]
 simp
theorem xL {I:Im} {a:Act} {place:Nat→Option (Nat×Nat)} (he:cF I a Γ) (hg:g=true):∀{parts:List (Nat×Operand)} {ps:List (Nat×List AV)} {l0:List AV} {cs:Array Value},aZ place Γ g n parts ps→bD I l0 cs.toList→l0.length=n→
 ∃g0,Instr.fill place cs (parts.map fun q=>(q.1,a.eval q.2))=some g0∧bD I (filled l0 ps) g0.toList∧(filled l0 ps).length=n
 |[],[],l0,cs,_,h,hl=>⟨cs,rfl,h,hl⟩
 |(i,y)::r,(o,lx)::s,l0,cs,⟨⟨h1,h2,h3⟩,k⟩,h,hl=>by
  have hv:=h3 I a he hg
  have mC:=hv.length
  have bB:=h.length
  have cr:(a.eval y).cells.size=lx.length:=by simpa using mC
  have iL:cs.size=n:=by simp at bB;omega
  have r4:bD I (eo l0 o lx) (eo cs.toList o (a.eval y).cells.toList):=by
   simp only[eo]
   rw[mC]
   exact((h.take o).append hv).append (h.drop (o+lx.length))
  have hz:=Ni (a.eval y).cells o cs (by omega)
  have Nj:(eo l0 o lx).length=n:=by simp only[eo,List.length_append,List.length_take,List.length_drop];omega
  obtain⟨g0,e1,e2,e3⟩:=xL he hg (parts:=r) (ps:=s) (l0:=eo l0 o lx) (cs:=(a.eval y).cells.zipIdx.foldl (fun cs (c,j)=>cs.setIfInBounds (o+j) c) cs) k (by rw[hz];exact r4) Nj
  refine⟨g0,?_,e2,e3⟩
  simp only[List.map_cons,Instr.fill,h1]
  rw[if_neg (by rw[cr,iL];simp;omega)]
  exact e1
 |[],_::_,_,_,h,_,_=>h.elim
 |_::_,[],_,_,h,_,_=>h.elim
def cA (P:Program) (T:TypeId):Nat→Option (Nat×Nat):=fun f=>
 (P.underlying T).bind fun dd=>match dd with|.struct fs=>(fs[f]?).bind fun x=>(P.info? x.type).map fun i=>(x.offset,i.size)|_=>none
theorem FA {pl AY:Nat→Option (Nat×Nat)}:∀(parts:List (Nat×Value)) (cs:Array Value),(∀q∈parts,pl q.1=AY q.1)→Instr.fill pl cs parts=Instr.fill AY cs parts
 |[],_,_=>rfl
 |(i,v)::r,cs,h=>by
  simp only[Instr.fill,h (i,v) (by simp)]
  cases AY i with
  |none=>rfl
  |some q=>simp only;split
           ·rfl
           ·exact FA r _ (fun q hq=>h q (by simp[hq]))
def AZ (P:Program) (T:TypeId):Bool:=match P.underlying T with|some (.struct fs)=>fs.all fun x=>(P.info? x.type).isSome|_=>false
theorem run_places {P:Program} {w:World} (fs:Array Field) (h:(fs.all fun x=>(P.info? x.type).isSome)=true):
 (fs.mapM fun f=>do pure (f.offset,←sizeOf f.type):Sem (Array (Nat×Nat))).run P w=.ok (fs.map fun f=>(f.offset,((P.info? f.type).map (·.size)).getD 0)) w:=by
 have key:∀(l:List Field),(∀x∈l,(P.info? x.type).isSome=true)→(l.mapM fun f=>do pure (f.offset,←sizeOf f.type):Sem (List (Nat×Nat))).run P w=.ok (l.map fun f=>(f.offset,((P.info? f.type).map (·.size)).getD 0)) w:=by
  intro l
  induction l with
  |nil=>intro _;simp
  |cons x l ih=>
   intro hl
   obtain⟨i,hi⟩:=Option.isSome_iff_exists.1 (hl x (by simp))
   have hs:(sizeOf x.type).run P w=.ok i.size w:=by simp[sizeOf,typeInfo,hi]
   rw[List.mapM_cons]
   simp only[Sem.run_bind,hs,Result.andThen_ok,Sem.run_pure,ih (fun y hy=>hl y (by simp[hy]))]
   simp[hi]
 rw[Array.mapM_eq_mapM_toList]
 have h':∀x∈fs.toList,(P.info? x.type).isSome=true:=by
  intro x hx
  rw[Array.all_eq_true'] at h
  exact h x (by simpa using hx)
 have e:=key fs.toList h'
 rw[show(List.toArray<$>(fs.toList.mapM fun f=>do pure (f.offset,←sizeOf f.type):Sem (List (Nat×Nat))))=(do let l←(fs.toList.mapM fun f=>do pure (f.offset,←sizeOf f.type):Sem (List (Nat×Nat)));pure l.toArray) from rfl]
 simp only[Sem.run_bind,e,Result.andThen_ok,Sem.run_pure]
 congr 1
 apply Array.toList_inj.1;simp
theorem Nk {l0:List AV} {parts:List (Nat×Operand)} {ps:List (Nat×List AV)} (hT:Ty P T true n m zv) (hk:AZ P T=true) (hz:∀I,bD I l0 zv.cells.toList) (hn:l0.length=n) (hp:aZ (cA P T) Γ g n parts ps):
 Ok P H Γ g ⟨d,.build T parts.toArray,ty,p,af,gd⟩ (.agg (filled l0 ps)):=
 fw fun _ I a w he _ _ hg=>by
  obtain⟨g0,e1,e2,_⟩:=xL he hg hp (hz I) hn
  refine⟨.agg g0,?_,g0,rfl,e2⟩
  have vr:(zeroValue T).run P w=.ok zv w:=hT.zero
  unfold AZ at hk
  cases hu:P.underlying T with
  |none=>rw[hu] at hk;cases hk
  |some dd=>
   rw[hu] at hk
   cases dd with
   |struct fs=>
    simp only at hk
    have Nl:=run_places (P:=P) (w:=w) fs hk
    have A0:Instr.fill ((fs.map fun f=>(f.offset,((P.info? f.type).map (·.size)).getD 0))[·]?) zv.cells (parts.map fun q=>(q.1,a.eval q.2))=some g0:=by
     rw[←e1]
     refine FA _ _ fun q _=>?_
     simp only[cA,hu,Option.bind_some,Array.getElem?_map]
     cases hf:fs[q.1]? with
     |none=>rfl
     |some f=>
      have:=(Array.all_eq_true'.1 hk) f (Array.mem_of_getElem? hf)
      obtain⟨i,hi⟩:=Option.isSome_iff_exists.1 this
      simp[hi]
    simp only[execOp,Instr.build,Sem.run_bind,vr,Result.andThen_ok,run_underlying hu,Nl,Sem.run_pure,List.map_toArray,List.toList_toArray]
    rw[A0]
    rfl
   |_=>cases hk
def nk (sz:Nat):Nat→Option (Nat×Nat):=fun i=>some (i*sz,sz)
theorem FB {I:Im}:∀{cs:List Value},(∀c∈cs,c.oneCell'=true)→bD I (List.replicate cs.length AV.any) cs
 |[],_=>trivial
 |c::cs,h=>by
  rw[List.length_cons,List.replicate_succ]
  exact⟨⟨trivial,h c (by simp)⟩,FB (fun d hd=>h d (by simp[hd]))⟩
theorem xM {w:World} {T:TypeId} {cs:Array Value}:(newRow T cs).run P w=.ok ⟨w.heap.size,0,none⟩ (w.alloc (.cells cs T)):=rfl
theorem FC {I:Im} {a:Act} {w:World} {ag:Bool} {sz len:Nat} {parts:List (Nat×Operand)} {ps:List (Nat×List AV)} (he:cF I a Γ) (hg:g=true) (hT:P.underlying T=some (.slice E)) (hE:Ty P E ag sz m zv) (fB:zv.cells.size=sz) (np:∀u∈zv.cells.toList,u.oneCell'=true)
 (qG:len*sz≤16777216) (hp:aZ (nk sz) Γ g (len*sz) parts ps):
 ∃cs,(Instr.buildSlice T len (parts.toArray.map fun(i,x)=>(i,a.eval x))).run P w=.ok (.slice (some ⟨w.heap.size,0,none⟩) len len) (w.alloc (.cells cs E))∧bD I (filled (List.replicate (len*sz) AV.any) ps) cs.toList∧cs.size=len*sz:=by
 have hs:(sizeOf E).run P w=.ok sz w:=hE.size
 have hz:(zeroValue E).run P w=.ok zv w:=hE.zero
 have FD:∀z:Array Value,(len*sz=0∨z=zv.cells)→bD I (List.replicate (len*sz) AV.any) ((Array.range (len*sz)).map fun j=>z[j%z.size]!).toList:=fun z Nm=>by
  have:=FB (I:=I) (cs:=((Array.range (len*sz)).map fun j=>z[j%z.size]!).toList) (fun c hc=>by
   rcases Nm with h0|rfl
   ·simp[h0] at hc
   ·rw[Array.mem_toList_iff,Array.mem_map] at hc
    obtain⟨j,hj,rfl⟩:=hc
    have k4:0<zv.cells.size:=by
     rw[fB]
     rcases Nat.eq_zero_or_pos sz with h|h
     ·subst h;simp at hj
     ·exact h
    have bJ:=Nat.mod_lt j k4
    rw[getElem!_pos zv.cells _ bJ]
    exact np _ (by simp))
  refine this.cast ?_ rfl
  simp
 have nj:(List.replicate (len*sz) AV.any).length=len*sz:=by simp
 have xN:¬len*sz>2^24:=by omega
 by_cases h0:len*sz=0
 ·obtain⟨cs,e1,e2,e3⟩:=xL he hg hp (FD #[] (.inl h0)) nj
  refine⟨cs,?_,e2,by have:=e2.length;simp at this;omega⟩
  have A1:Instr.fill (fun i=>some (i*sz,sz)) ((Array.range (len*sz)).map fun j=>(#[]:Array Value)[j%(#[]:Array Value).size]!) (parts.map fun q=>(q.1,a.eval q.2))=some cs:=e1
  simp only[Instr.buildSlice,Sem.run_bind,run_underlying hT,Result.andThen_ok,hs,if_neg xN,if_pos h0,Sem.run_pure,List.map_toArray,List.toList_toArray,A1,xM]
 ·obtain⟨cs,e1,e2,e3⟩:=xL he hg hp (FD zv.cells (.inr rfl)) nj
  refine⟨cs,?_,e2,by have:=e2.length;simp at this;omega⟩
  have A1:Instr.fill (fun i=>some (i*sz,sz)) ((Array.range (len*sz)).map fun j=>zv.cells[j%zv.cells.size]!) (parts.map fun q=>(q.1,a.eval q.2))=some cs:=e1
  simp only[Instr.buildSlice,Sem.run_bind,run_underlying hT,Result.andThen_ok,hs,if_neg xN,if_neg h0,hz,Sem.run_pure,List.map_toArray,List.toList_toArray,A1,xM]
theorem Nn {ag:Bool} {sz len:Nat} {gw:List (List AV)} {parts:List (Nat×Operand)} {ps:List (Nat×List AV)} (hT:P.underlying T=some (.slice E)) (hE:Ty P E ag sz m zv) (fB:zv.cells.size=sz) (np:∀u∈zv.cells.toList,u.oneCell'=true)
 (cr:Nat.blt 0 sz=true) (qG:Nat.ble (len*sz) 16777216=true) (hp:aZ (nk sz) Γ g (len*sz) parts ps) (iZ:filled (List.replicate (len*sz) AV.any) ps=gw.flatten) (hlen:gw.length=len) (hr:∀r∈gw,r.length=sz):
 Ok P H Γ g ⟨d,.buildSlice T len parts.toArray,ty,p,af,gd⟩ (.rows sz gw):=
 fun base I a w K Q he hm hw hg k=>by
  have A2:=Nat.le_of_ble_eq_true qG
  obtain⟨cs,e1,e2,e3⟩:=FC (w:=w) he hg hT hE fB np A2 hp
  unfold Oper.wp
  simp only[execOp,Sem.run_bind,e1,Result.andThen_ok,Sem.run_pure,Oper.upon_value]
  refine k _ _ _ ⟨some ⟨w.heap.size,0,none⟩,len,by rw[hlen],by omega,?_,hr,.inr ⟨_,rfl,rfl,cs,by simp[Im.add],?_⟩,(fun h=>by cases h)⟩ (Step.u9 hm cs E (0,0))
  ·simp only[maxLen]
   have h:0<sz:=by simpa using cr
   have:len*1≤len*sz:=Nat.mul_le_mul_left _ h
   omega
  ·rw[iZ] at e2
   refine(e2.up (Im.u7 (hm.none (Nat.le_refl _)))).cast rfl ?_
   simp only[List.drop_zero]
   rw[List.take_of_length_le (by rw[←e2.length];simp)]
structure vz (P:Program) (T:TypeId) (n:Nat):Prop where
 gd:P.eqGuardType P.depth T=false
 eq:∀(xs ys:List Int) (w:World),xs.length=n→ys.length=n→(Op.equalIn 10000 T (.agg (xs.map (Value.int .i64)).toArray) (.agg (ys.map (Value.int .i64)).toArray)).run P w=.ok (xs==ys) w
theorem xO {I:Im} {v:Value} {xs:List Int} (h:(AV.agg (xs.map AV.int)).h I v):v=.agg (xs.map (Value.int .i64)).toArray:=by
 obtain⟨cs,e,hl⟩:=h
 have key:∀(xs:List Int) (cs:List Value),bD I (xs.map AV.int) cs→cs=xs.map (Value.int .i64):=by
  intro xs
  induction xs with
  |nil=>intro cs h;cases cs with
        |nil=>rfl
        |cons _ _=>exact h.elim
  |cons x xs ih=>
   intro cs h
   cases cs with
   |nil=>exact h.elim
   |cons c cs=>
    have e1:c=.int .i64 x:=h.1.1
    rw[e1,ih cs h.2];rfl
 rw[e];congr 1;apply Array.toList_inj.1;rw[key xs _ hl]
theorem lf (xs ys:List Int) (hT:vz P T n) (hx:xs.length=n) (A3:ys.length=n) (hy:At Γ g y (.agg (xs.map AV.int))) (hz:At Γ g z (.agg (ys.map AV.int))):
 Ok P H Γ g ⟨d,.binOp .eql T y z T',ty,p,af,gd⟩ (.bool (xs==ys)):=
 fR fun I a w he hg=>by
  have e1:=xO (hy I a he hg)
  have e2:=xO (hz I a he hg)
  simp only[execOp,e1,e2,Sem.run_bind,run_eqGuard_agg w .eql T y z _ _ hT.gd,Result.andThen_ok,run_eql_struct,hT.eq xs ys w hx A3,Sem.run_pure]
theorem r6 (xs ys:List Int) (hT:vz P T n) (hx:xs.length=n) (A3:ys.length=n) (hy:At Γ g y (.agg (xs.map AV.int))) (hz:At Γ g z (.agg (ys.map AV.int))):
 Ok P H Γ g ⟨d,.binOp .neq T y z T',ty,p,af,gd⟩ (.bool (xs !=ys)):=
 fR fun I a w he hg=>by
  have e1:=xO (hy I a he hg)
  have e2:=xO (hz I a he hg)
  simp only[execOp,e1,e2,Sem.run_bind,run_eqGuard_agg w .neq T y z _ _ hT.gd,Result.andThen_ok,run_neq_struct,hT.eq xs ys w hx A3,Sem.run_pure]
  rfl
theorem FE {b b':Bool} (hy:At Γ g y (.bool b)) (hz:At Γ g z (.bool b')) (hT:P.underlying T=some .bool):Ok P H Γ g ⟨d,.binOp .eql T y z T',ty,p,af,gd⟩ (.bool (b==b')):=
 fR fun I a w he hg=>by
  have h1:a.eval y=.bool b:=hy I a he hg
  have h2:a.eval z=.bool b':=hz I a he hg
  simp only[execOp,h1,h2]
  simp[eqGuard,binOp,Op.equal,Op.maxDepth,run_equalIn_bool' w 9999 T b b' hT]
theorem A4 {b b':Bool} (hy:At Γ g y (.bool b)) (hz:At Γ g z (.bool b')) (hT:P.underlying T=some .bool):Ok P H Γ g ⟨d,.binOp .neq T y z T',ty,p,af,gd⟩ (.bool (b !=b')):=
 fR fun I a w he hg=>by
  have h1:a.eval y=.bool b:=hy I a he hg
  have h2:a.eval z=.bool b':=hz I a he hg
  simp only[execOp,h1,h2]
  simp[eqGuard,binOp,Op.equal,Op.maxDepth,run_equalIn_bool' w 9999 T b b' hT]
  cases b<;>cases b'<;>rfl
theorem tL {a' b:Int} (hy:At Γ g y (.int a')) (hz:At Γ g z (.int b)) (hb:g=true→0≤a'∧0<b∧a'≤9223372036854775807):Ok P H Γ g ⟨d,.binOp .quo T y z T',ty,p,af,gd⟩ (.int (a'/b)):=
 fR fun I a w he hg=>by
  have h1:a.eval y=.int .i64 a':=hy I a he hg
  have h2:a.eval z=.int .i64 b:=hz I a he hg
  obtain⟨g1,g2,g3⟩:=hb hg
  have bn:b≠0:=by omega
  have h4:a'.tdiv b=a'/b:=Int.tdiv_eq_ediv_of_nonneg g1
  have h5:a'/b≤a':=Int.ediv_le_self _ g1
  have h6:0≤a'/b:=Int.ediv_nonneg g1 (by omega)
  have h3:IntKind.i64.wrap (a'/b)=a'/b:=IntWalk.i64_in _ (by omega)
  simp only[execOp,h1,h2]
  simp[go_sem,eqGuard,binOp,Op.intDiv,bn,h4,h3]
theorem pI {a' b:Int} (hy:At Γ g y (.int a')) (hz:At Γ g z (.int b)) (hb:g=true→0≤a'∧0<b∧a'≤9223372036854775807):Ok P H Γ g ⟨d,.binOp .rem T y z T',ty,p,af,gd⟩ (.int (a'%b)):=
 fR fun I a w he hg=>by
  have h1:a.eval y=.int .i64 a':=hy I a he hg
  have h2:a.eval z=.int .i64 b:=hz I a he hg
  obtain⟨g1,g2,g3⟩:=hb hg
  have bn:b≠0:=by omega
  have h4:a'.tmod b=a'%b:=Int.tmod_eq_emod_of_nonneg g1
  have h5:=Int.emod_lt_of_pos a' g2
  have h6:=Int.emod_nonneg a' bn
  have h8:=Int.mul_ediv_add_emod a' b
  have h9:0≤b*(a'/b):=Int.mul_nonneg (by omega) (Int.ediv_nonneg g1 (by omega))
  have h7:a'%b≤a':=by omega
  have h3:IntKind.i64.wrap (a'%b)=a'%b:=IntWalk.i64_in _ (by omega)
  simp only[execOp,h1,h2]
  simp[go_sem,eqGuard,binOp,Op.intDiv,bn,h4,h3]
end
section
variable {P:Program} {c:Ctx} {I:Im} {H:List Own} {Γ:Env} {a:Act} {w:World} {Q:Exit→Act→World→Prop}
def vA (tmps:Array Value) (r:ResultVar):Sem Value:=
 match r with
 |.tmp t=>pure (tmps.getD t undef)
 |.cell s t=>do loadVar t (←asAddr (tmps.getD s undef))
def lg (P:Program) (H:List Own) (Γ:Env) (r:ResultVar) (x:AV):Prop:=
 ∀(base:Nat→Prop) I a w,cF I a Γ→dr w I→bQ base I w H→
  ∃v,(vA a.tmps r).run P w=.ok v w∧x.h I v
theorem lg.t {t:Nat} {x:AV} (h:Env.get t Γ=some x):lg P H Γ (.tmp t) x:=fun _ _ _ _ he _ _=>⟨_,rfl,he t x h⟩
theorem lg.nil {t:Nat} {sz:Nat} (h:Env.get t Γ=some (.val (.slice none 0 0))):lg P H Γ (.tmp t) (.rows sz []):=fun _ I a _ he _ _=>⟨_,rfl,by
 have e:a.tmps.getD t undef=_:=he t _ h
 rw[e];exact eb sz I⟩
theorem lg.s {s b n m:Nat} {T T':TypeId} {zv:Value} {l:List AV} (k:Nat) (hT:Ty P T true n m zv) (h:Env.get s Γ=some (.val (.pointer (some ⟨b,0,none⟩)))) (hk:H[k]?=some (Own.box b T' l)) (hn:l.length=n):lg P H Γ (.cell s T) (.agg l):=fun base I a w he _ hw=>by
 have e:a.tmps.getD s undef=_:=he s _ h
 obtain⟨cs,hb,hl⟩:=(hw.all _ (List.mem_of_getElem? hk)).1
 have hlen:=hl.length
 have h3:∀j v,cs.toList[j]?=some v→w.cell? ((⟨b,0,none⟩:Addr).add j)=some v:=fun j v hv=>by
  rw[add_plain]
  simp only[World.cell?,hb,Option.isSome_none,Bool.false_eq_true,if_false]
  simpa using hv
 refine⟨.agg cs,?_,cs,rfl,hl⟩
 have:=vf hT (w:=w) (p:=⟨b,0,none⟩) (cs:=cs.toList) (by omega) h3
 simp only[vA,e,asAddr,Sem.run_bind,Sem.run_pure,Result.andThen_ok]
 simpa using this
theorem lg.cc {s b m:Nat} {T T':TypeId} {zv:Value} {x:AV} (k:Nat) (hT:Ty P T false 1 m zv) (h:Env.get s Γ=some (.val (.pointer (some ⟨b,0,none⟩)))) (hk:H[k]?=some (Own.box b T' [x])):lg P H Γ (.cell s T) x:=fun base I a w he _ hw=>by
 have e:a.tmps.getD s undef=_:=he s _ h
 obtain⟨cs,hb,hl⟩:=(hw.all _ (List.mem_of_getElem? hk)).1
 obtain⟨u,hu,hx,_⟩:=hl.get (i:=0) (x:=x) rfl
 have hc:w.cell? ⟨b,0,none⟩=some u:=by simp only[World.cell?,hb];simpa using hu
 refine⟨u,?_,hx⟩
 simp only[vA,e,asAddr,Sem.run_bind,Sem.run_pure,Result.andThen_ok,ve hT hc]
def aU (P:Program) (H:List Own) (Γ:Env):List ResultVar→List AV→Prop
 |[],[]=>True
 |r::rs,x::xs=>lg P H Γ r x∧aU P H Γ rs xs
 |_,_=>False
theorem FF {base:Nat→Prop} (he:cF I a Γ) (hm:dr w I) (hw:bQ base I w H):∀{rs:List ResultVar} {xs:List AV},aU P H Γ rs xs→
 ∃vs:List Value,(rs.mapM (vA a.tmps)).run P w=.ok vs w∧cN I xs vs
 |[],[],_=>⟨[],by simp,trivial⟩
 |r::rs,x::xs,⟨h,k⟩=>by
  obtain⟨v,h1,h2⟩:=h base I a w he hm hw
  obtain⟨vs,h3,h4⟩:=FF he hm hw k
  refine⟨v::vs,?_,h2,h4⟩
  rw[List.mapM_cons]
  simp only[Sem.run_bind,h1,h3,Result.andThen_ok,Sem.run_pure]
 |[],_::_,h=>h.elim
 |_::_,[],h=>h.elim
def pJ:List AV→AV
 |[x]=>x
 |l=>.c9 l
theorem St.vB {fn:Func} {rs:List ResultVar} {xs:List AV} (hs:St c I H Γ a w) (hr:fn.results=rs.toArray) (h:aU P H Γ rs xs):∃v,(results fn a.tmps).run P w=.ok v w∧(pJ xs).h I v:=by
 obtain⟨vs,h1,h2⟩:=FF (P:=P) hs.env hs.step.cE hs.own h
 have hlen:=h2.length
 have e:(results fn a.tmps).run P w=.ok (if h:vs.toArray.size=1 then vs.toArray[0] else .tuple vs.toArray) w:=by
  show(do let vs←fn.results.mapM (vA a.tmps);pure (if h:vs.size=1 then vs[0] else .tuple vs):Sem Value).run P w=_
  rw[hr,Array.mapM_eq_mapM_toList]
  rw[show∀(f:ResultVar→Sem Value),(List.toArray<$>(rs.toArray.toList.mapM f))=(do let l←rs.mapM f;pure l.toArray) from fun _=>rfl]
  simp only[Sem.run_bind,h1,Result.andThen_ok,Sem.run_pure]
 refine⟨_,e,?_⟩
 match xs,vs,h2 with
 |[],[],_=>exact⟨#[],rfl,trivial⟩
 |[x],[v],h2=>exact h2.1
 |x::x'::xs,v::v'::vs,h2=>exact⟨(v::v'::vs).toArray,rfl,h2⟩
theorem St.ret {fn:Func} {rs:List ResultVar} {xs:List AV} {res:AV} (hs:St c I H Γ a w) (hr:fn.results=rs.toArray) (h:aU P H Γ rs xs) (e:pJ xs=res):bodyPost P fn (tD c.F c.I c.W res) .ret a w:=by
 subst e
 obtain⟨v,h1,h2⟩:=hs.vB hr h
 exact⟨hs.defers,v,h1,I,hs.step,h2⟩
theorem aU.nil:aU P H Γ [] []:=trivial
theorem aU.cons {r:ResultVar} {rs:List ResultVar} {x:AV} {xs:List AV} (h:lg P H Γ r x) (k:aU P H Γ rs xs):aU P H Γ (r::rs) (x::xs):=⟨h,k⟩
def AV.fn (f:FuncId) (fC:List AV):AV:=⟨fun I v=>∃cs:Array Value,v=.func (.func f) #[] cs∧cN I fC cs.toList,fun _ _ _ hl ⟨cs,e,h⟩=>⟨cs,e,h.up hl⟩⟩
def mE (P:Program) (fv:AV) (args:List AV) (res:AV):Prop:=
 ∀(I:Im) (w:World) (v:Value) (vs:Array Value),dr w I→fv.h I v→cN I args vs.toList→
  ∃f first fC,v=.func (.func f) first fC∧ng P f∧Calls P f (first++vs++fC) w (tC I w res)
theorem cN.append {I:Im}:∀{l m:List AV} {cs ds:List Value},cN I l cs→cN I m ds→cN I (l++m) (cs++ds)
 |[],m,[],ds,_,k=>by simpa using k
 |x::xs,m,c::cs,ds,h,k=>by simpa using⟨h.1,cN.append h.2 k⟩
 |[],_,_::_,_,h,_=>h.elim
 |_::_,_,[],_,h,_=>h.elim
theorem Fn.val {f:FuncId} {args fC:List AV} {res:AV} (h:Fn P f (args++fC) res):mE P (.fn f fC) args res:=fun I w v vs hm ⟨cs,e,hc⟩ ha=>
 ⟨f,#[],cs,e,h.1,h.2 I w (#[]++vs++cs) hm (by simpa using ha.append hc)⟩
section
variable {d:Option Tmp} {y z:Operand} {ty T T' E:TypeId} {p:String} {af:Array Edge} {g:Bool} {gd:Option (Nat×Bool)} {n m:Nat} {zv:Value}
theorem lQ {f:FuncId} {ys:Array Operand} {fC:List AV} (h:∀I a,cF I a Γ→g=true→cN I fC (ys.map a.eval).toList):Ok P H Γ g ⟨d,.makeFunc (.func f) #[] ys,ty,p,af,gd⟩ (.fn f fC):=
 fw fun _ I a w he _ _ hg=>⟨.func (.func f) #[] (ys.map a.eval),by simp[execOp,Instr.makeFunc],_,rfl,h I a he hg⟩
theorem xP {fv res:AV} {ys:Array Operand} {ts:Array TypeId} {xs:List AV} (hf:mE P fv xs res) (hy:At Γ g y fv) (h:∀I a,cF I a Γ→g=true→cN I xs (ys.map a.eval).toList):Ok P H Γ g ⟨d,.call ⟨.value y,ys,ts⟩,ty,p,af,gd⟩ res:=
 fun base I a w K Q he hm hw hg k=>by
  obtain⟨f,first,fC,e,r7,hc⟩:=hf I w (a.eval y) (ys.map a.eval) hm (hy I a he hg) (h I a he hg)
  unfold Oper.wp
  have hr:(execOp a.eval (⟨d,.call ⟨.value y,ys,ts⟩,ty,p,af,gd⟩:Oper)).run P w=.ok (.enter f (first++ys.map a.eval++fC)) w:=by
   simp only[execOp,resolve,Deferred.ofValue,e,Sem.run_bind,Sem.run_pure,Result.andThen_ok,invoke,r7 _ w]
  rw[hr,Oper.upon_enter]
  refine Calls.mono hc fun e w' he=>?_
  cases e with
  |returned v=>obtain⟨I',hs,hx⟩:=he;exact k v I' w' hx hs
  |panicked _=>exact he.elim
  |outgrown=>exact he.elim
end
section
variable {α:Type} [Inhabited α]
def ab (l:List α) (i:Nat):α:=l.getD i default
theorem FG {l:List α} {i:Nat} (h:i<l.length):l[i]?=some (ab l i):=by simp[ab,h]
theorem No (f:α→List AV) {l:List α} {i:Nat} (h:i<l.length):nth (l.map f) i=f (ab l i):=by simp[nth,ab,List.getD,h]
theorem jw {l:List α} {i:Nat} (h:i<l.length):l.drop i=ab l i::l.drop (i+1):=by
 rw[List.drop_eq_getElem_cons h];simp[ab,h]
theorem dL {l:List α} {i:Nat} (h:i<l.length):l.take (i+1)=l.take i++[ab l i]:=by
 rw[List.take_succ_eq_append_getElem h];simp[ab,h]
theorem iM {d:Option Tmp} {y z:Operand} {ty T E:TypeId} {p:String} {af:Array Edge} {g:Bool} {gd:Option (Nat×Bool)} {m:Nat} {zv:Value} {s:Nat} {ag:Bool} {f:α→List AV} {l:List α} {i:Int}
 (hT:P.underlying T=some (.slice E)) (hE:Ty P E ag s m zv) (h:At Γ g y (.rows s (l.map f))) (hi:At Γ g z (.int i)) (hb:g=true→0≤i∧i<l.length):
 Ok P H Γ g ⟨d,.indexAddr T y z,ty,p,af,gd⟩ (.ptr (f (ab l i.toNat))):=
 fw fun base I a w he hm hw hg=>by
  obtain⟨h0,h1⟩:=hb hg
  have e2:a.eval z=_:=hi I a he hg
  obtain⟨b,off,cap,e,k⟩:=ES (h I a he hg) (i:=i.toNat) (by rw[List.length_map];omega)
  rw[No f (by omega)] at k
  refine⟨_,?_,_,rfl,k⟩
  have hs:(sizeOf E).run P w=.ok s w:=hE.size
  have ZV:i<((l.map f).length:Int):=by rw[List.length_map];exact h1
  simp only[execOp,e,e2,Instr.indexAt,asIntOf,Sem.run_bind,Sem.run_pure,Result.andThen_ok,run_underlying hT]
  rw[List.length_map] at*
  simp[h0,h1,add_plain,hs]
end
theorem eZ {α:Type} [Inhabited α] {d:Option Tmp} {y z:Operand} {ty T E:TypeId} {p:String} {af:Array Edge} {g:Bool} {gd:Option (Nat×Bool)} {m:Nat} {zv:Value} {s:Nat} {ag:Bool} {f:α→List AV} {l:List α} {i:Nat}
 (hT:P.underlying T=some (.slice E)) (hE:Ty P E ag s m zv) (h:At Γ g y (.rows s (l.map f))) (hi:At Γ g z (.int (i:Int))) (hb:g=true→i<l.length):
 Ok P H Γ g ⟨d,.indexAddr T y z,ty,p,af,gd⟩ (.ptr (f (ab l i))):=
 iM hT hE h hi fun e=>⟨by omega,by have:=hb e;omega⟩
theorem Np {α:Type} {d:Option Tmp} {y:Operand} {ty T E:TypeId} {p:String} {af:Array Edge} {g:Bool} {gd:Option (Nat×Bool)} {s:Nat} {f:α→List AV} {l:List α} (hT:P.underlying T=some (.slice E)) (h:At Γ g y (.rows s (l.map f))):
 Ok P H Γ g ⟨d,.call ⟨.builtin .len,#[y],#[T]⟩,ty,p,af,gd⟩ (.int l.length):=by
 have:=vg (H:=H) (d:=d) (ty:=ty) (p:=p) (af:=af) (gd:=gd) hT h
 rwa[List.length_map] at this
theorem bL {α:Type} {s:Nat} {f:α→List AV} {l:List α} {v:Value} (h:(AV.rows s (l.map f)).h I v):l.length≤9223372036854775807:=by
 obtain⟨_,cap,_,h1,h2,_⟩:=h
 rw[List.length_map] at h1
 simp only[maxLen] at h2;omega
theorem St.Nq {t s:Nat} {l:List (List AV)} (hs:St c I H Γ a w) (ht:Env.get t Γ=some (.rows s l)):l.length≤9223372036854775807:=by
 obtain⟨_,cap,_,h1,h2,_⟩:=hs.env t _ ht
 simp only[maxLen] at h2;omega
theorem St.ew {α:Type} {t s:Nat} {f:α→List AV} {l:List α} (hs:St c I H Γ a w) (ht:Env.get t Γ=some (.rows s (l.map f))):l.length≤9223372036854775807:=by
 have:=hs.Nq ht;rwa[List.length_map] at this
theorem bM {b b':Bool} (h:b=b'):pJ [AV.bool b]=AV.bool b':=by rw[h];rfl
theorem fk {b b':Int} (h:b=b'):pJ [AV.int b]=AV.int b':=by rw[h];rfl
section
variable {ops:Array Oper} {rest:List Oper} {d:Nat} {y z:Operand} {ty T T' E:TypeId} {p:String} {af:Array Edge} {g:Bool} {gd:Option (Nat×Bool)} {n m:Nat} {zv:Value}
theorem FH {d:Option Tmp} {q:Addr} (h:At Γ g y (.val (.pointer (some q)))):Ok P H Γ g ⟨d,.nilCheck y,ty,p,af,gd⟩ (.val (.pointer (some q))):=
 fR fun I a w he hg=>by
  have e:a.eval y=_:=h I a he hg
  simp only[execOp,e,Sem.run_bind,Sem.run_pure,Result.andThen_ok]
theorem FI {d:Option Tmp} {l:List AV} (h:At Γ g y (.ptr l)):Ok P H Γ g ⟨d,.nilCheck y,ty,p,af,gd⟩ (.ptr l):=
 fw fun _ I a w he _ _ hg=>by
  obtain⟨q,e,k⟩:=h I a he hg
  refine⟨_,?_,q,rfl,k⟩
  simp only[execOp,e,Sem.run_bind,Sem.run_pure,Result.andThen_ok]
theorem St.cT {sz:Nat} {ag:Bool} (hs:St c I H Γ a w) (hd:Nat.blt d c.n=true) (hT:P.underlying T=some (.slice E)) (hE:Ty P E ag sz m zv) (cr:0<sz)
 (k:∀b I a' w',St c I (H++[Own.row (.slice (some ⟨b,0,none⟩) 0 0) E sz []]) ((d,.val (.slice (some ⟨b,0,none⟩) 0 0))::Γ) a' w'→wpList P ops Q rest a' w'):
 wpList P ops Q (⟨some d,.buildSlice T 0 #[],ty,p,af,none⟩::rest) a w:=by
 have gL:(sizeOf E).run P w=.ok sz w:=hE.size
 refine gZ rfl ?_
 have hr:(Instr.buildSlice T 0 ((#[]:Array (Nat×Operand)).map fun(i,x)=>(i,a.eval x))).run P w=.ok (.slice (some ⟨w.heap.size,0,none⟩) 0 0) (w.alloc (.cells #[] E)):=by
  simp only[Instr.buildSlice,Sem.run_bind,run_underlying hT,Result.andThen_ok,gL]
  have e0:Array.range 0=#[]:=rfl
  simp[Instr.fill,xM,e0]
 unfold Oper.wp
 simp only[execOp,Sem.run_bind,hr,Result.andThen_ok,Sem.run_pure,Oper.upon_value]
 have s1:=Step.alloc hs.step.cE (.cells #[] E)
 exact k w.heap.size I _ _ (St.xH (hs.kY (hs.step.trans s1) (Im.le_refl _) (hs.own.step s1) hd rfl) E (.inr ⟨⟨w.heap.size,0,none⟩,rfl,rfl⟩))
theorem St.tM {b cap q sz i j:Nat} {l:List (List AV)} {r:List AV} {x:AV} (k:Nat) (hs:St c I H Γ a w) (hT:Ty P T false 1 m zv) (hy:At Γ true y (.val (.pointer (some ⟨b,q,none⟩)))) (hz:At Γ true z x) (hx:x.One)
 (hk:H[k]?=some (Own.row (.slice (some ⟨b,0,none⟩) l.length cap) E sz l)) (hr:l[i]?=some r) (hq:q=i*sz+j) (hj:Nat.ble (j+1) sz=true)
 (kk:∀a' w',St c I (H.set k (Own.row (.slice (some ⟨b,0,none⟩) l.length cap) E sz (l.set i (eo r j [x])))) Γ a' w'→wpList P ops Q rest a' w'):
 wpList P ops Q (⟨none,.store T y z,ty,p,af,none⟩::rest) a w:=by
 have hv:=hz I a hs.env rfl
 have hc:=vq (hx _ _ hv)
 obtain⟨w',eS,bX⟩:=hs.Fv (q:=q) (lx:=[x]) (v:=a.eval z) k hT hk (by rw[hc];exact⟨⟨hv,hx _ _ hv⟩,trivial⟩) rfl hr hq (Nat.le_of_ble_eq_true hj)
 exact gZ rfl (tI (hy I a hs.env rfl) rfl eS (kk _ _ bX))
theorem St.jx {b cap q sz i:Nat} {l:List (List AV)} {r lx:List AV} (k:Nat) (hs:St c I H Γ a w) (hT:Ty P T true sz m zv) (hy:At Γ true y (.val (.pointer (some ⟨b,q,none⟩)))) (hz:At Γ true z (.agg lx))
 (hk:H[k]?=some (Own.row (.slice (some ⟨b,0,none⟩) l.length cap) E sz l)) (hr:l[i]?=some r) (hq:q=i*sz) (hn:lx.length=sz)
 (kk:∀a' w',St c I (H.set k (Own.row (.slice (some ⟨b,0,none⟩) l.length cap) E sz (l.set i lx))) Γ a' w'→wpList P ops Q rest a' w'):
 wpList P ops Q (⟨none,.store T y z,ty,p,af,none⟩::rest) a w:=by
 obtain⟨cs,hv,hl⟩:=hz I a hs.env rfl
 obtain⟨w',eS,bX⟩:=hs.Fv (q:=q) (lx:=lx) (j:=0) (v:=a.eval z) k hT hk (by rw[hv];exact hl) hn hr (by rw[hq];rfl) (by omega)
 refine gZ rfl (tI (hy I a hs.env rfl) rfl eS (kk _ _ ?_))
 have cr:r.length=sz:=((hs.own.all _ (List.mem_of_getElem? hk)).1.1) r (List.mem_of_getElem? hr)
 have e:eo r 0 lx=lx:=by simp[eo];omega
 rwa[e] at bX
end
end
end Go.Proofs.YtoeioeimmfpefaaGreat
