/- Part 13: rules of the proofs, contracts of functions, plain facts. -/
import Derived.Laws.AppendOwn
import Derived.Test.YtoeioeimmfpefaaGreatP12
set_option linter.unusedVariables false
set_option linter.unusedSimpArgs false
namespace Go.Proofs.YtoeioeimmfpefaaGreat
open Go Go.RowKit
theorem cN.set {I:Im}:∀{l:List AV} {cs:List Value},cN I l cs→∀{i:Nat} {u:Value} {y:AV},l[i]?=some (.val u)→y.h I u→cN I (l.set i y) cs
 |[],[],_,i,_,_,hi,_=>by simp at hi
 |x::xs,c::cs,h,0,u,y,hi,hy=>by
  simp at hi;subst hi
  exact⟨by have e:c=u:=h.1;rw[e];exact hy,h.2⟩
 |x::xs,c::cs,h,i+1,u,y,hi,hy=>⟨h.1,cN.set h.2 (by simpa using hi) hy⟩
 |[],_::_,h,_,_,_,_,_=>h.elim
 |_::_,[],h,_,_,_,_,_=>h.elim
def BJ:Nat→List AV→Env→Prop
 |_,[],_=>True
 |k,x::r,Γ=>Env.get k Γ=some x∧BJ (k+1) r Γ
theorem Gv {I:Im} {Γ:Env}:∀(xs:List AV) (pre vs:List Value),vs.length=xs.length→cF I {tmps:=(pre++vs).toArray,defers:=[]} Γ→BJ pre.length xs Γ→cN I xs vs
 |[],_,[],_,_,_=>trivial
 |x::r,pre,v::vs,hl,he,h=>
  ⟨by simpa using he pre.length x h.1,Gv r (pre++[v]) vs (by simpa using hl) (by simpa using he) (by simpa using h.2)⟩
 |[],_,_::_,hl,_,_=>by simp at hl
 |_::_,_,[],hl,_,_=>by simp at hl
theorem Gw {I:Im} {l:List AV} {vs:Array Value} (h:cN I l vs.toList):cF I {tmps:=vs,defers:=[]} (ki 0 l):=fun t x e=>by
 have:=vh l vs.toList [] [] h t x e
 simpa using this
section
variable {P:Program} {c:Ctx} {I:Im} {H:List Own} {Γ:Env} {a:Act} {w:World} {E T:TypeId} {v:Value} {sz:Nat} {l:List (List AV)} {u xs ow:List AV} {b:Nat} {x y res tE:AV} {f:FuncId}
theorem St.Gx {t:Nat} (hs:St c I H Γ a w) (h:∀v,x.h I v→y.h I v) (ht:Env.get t Γ=some x):St c I H ((t,y)::Γ) a w:=
 ⟨hs.step,hs.own,fun s z e=>by
  simp only[Env.get] at e
  cases hb:Nat.beq t s with
  |true=>rw[hb] at e;obtain rfl:t=s:=Nat.eq_of_beq_eq_true hb;simp at e;subst e;exact h _ (hs.env t x ht)
  |false=>rw[hb] at e;exact hs.env s z (by simpa using e),hs.size,hs.defers⟩
theorem St.fa (k t q:Nat) (hs:St c I H Γ a w) (hk:H[k]?=some (Own.row v E sz l):=by rfl) (ht:Env.get t Γ=some (.agg xs):=by rfl) (hq:xs[q]?=some (.val v):=by rfl):∃I',St c I' (H.set k Own.gone) ((t,.agg (xs.set q (.rows sz l)))::Γ) a w:=
 let⟨I',h,hf⟩:=hs.qF k hk
 ⟨I',h.Gx (fun _ hx=>Gn q hq hf hx) ht⟩
theorem St.fc (k t i:Nat) {fC:List AV} (hs:St c I H Γ a w) (hk:H[k]?=some (Own.box b T u):=by rfl) (ht:Env.get t Γ=some (.fn f fC):=by rfl) (hi:fC[i]?=some (.val (.pointer (some ⟨b,0,none⟩))):=by rfl):∃I',St c I' (H.set k Own.gone) ((t,.fn f (fC.set i (.ptr u)))::Γ) a w:=
 let⟨I',h,hf⟩:=hs.Fy k hk
 ⟨I',h.Gx (x:=.fn f fC) (y:=.fn f (fC.set i (.ptr u))) (fun _ ⟨cs,e,hc⟩=>⟨cs,e,hc.set hi hf⟩) ht⟩
theorem cL.frozen {α:Type} {args:List AV} {ok:α→Prop} {h1:α→List Own} {r:α→AV} (h:cL P f args [] ok h1 r) (fz:∀x c I a w,ok x→St c I (h1 x) [(0,r x)] a w→∃I2 H2 Γ2,St c I2 H2 ((0,tE)::Γ2) a w):Fn P f args tE:=
 ⟨h.1,fun I w vs hm ha=>(h.2 I w vs hm (bQ.nil _ _ _) ha).mono fun e w' he=>by
   cases e with
   |panicked _=>exact he.elim
   |outgrown=>exact he.elim
   |returned v=>
    obtain⟨x,I',al,cm,ho,hx⟩:=he
    obtain⟨I2,H2,Γ2,hs⟩:=fz x ⟨w,I,1,dN []⟩ I' {tmps:=#[v],defers:=[]} w' al ⟨cm,ho,Gw (l:=[r x]) (vs:=#[v]) ⟨hx,trivial⟩,rfl,rfl⟩
    exact⟨I2,en.none hs.step,by simpa using hs.env 0 tE rfl⟩⟩
theorem yi {g:Bool} {d:Option Tmp} {ys:Array Operand} {ts:Array TypeId} {ty:TypeId} {p:String} {af:Array Edge} {gd:Option (Nat×Bool)} (hf:Fn P f ow res) (h:∀I a,cF I a Γ→g=true→cN I xs (ys.map a.eval).toList)
 (fz:∀c I a w,St c I H (ki 0 xs) a w→∃I2 H2 Γ2,St c I2 H2 Γ2 a w∧BJ 0 ow Γ2) (vQ:∀I J u,res.h I u→res.h J u:=by exact fun _ _ _ h=>h) (hn:ow.length=xs.length:=by rfl):Ok P H Γ g ⟨d,.call ⟨.value (.func f),ys,ts⟩,ty,p,af,gd⟩ res:=
 fun base I a w K Q he hm hw hg kk=>by
  have h0:=h I a he hg
  obtain⟨I2,H2,Γ2,eU,Oc⟩:=fz ⟨w,I,(ys.map a.eval).size,fun _=>True⟩ I {tmps:=ys.map a.eval,defers:=[]} w ⟨en.refl hm,hw.weaken fun b _=>.inr trivial,Gw h0,rfl,rfl⟩
  have hx:=Gv ow [] (ys.map a.eval).toList (by rw[h0.length,hn]) (by rw[List.nil_append,Array.toArray_toList];exact eU.env) Oc
  have hle:Im.le I I2:=eU.step.le
  have hc:=hf.2 I2 w (ys.map a.eval) eU.step.cE hx
  unfold Oper.wp
  have hr:(execOp a.eval (⟨d,.call ⟨.value (.func f),ys,ts⟩,ty,p,af,gd⟩:Oper)).run P w=.ok (.enter f (ys.map a.eval)) w:=by
   simp only[execOp,resolve,Act.eval]
   simp[go_sem,hf.1 _ w]
  rw[hr,Oper.upon_enter]
  refine Calls.mono hc fun e w' he=>?_
  cases e with
  |returned u=>
   obtain⟨I3,hs,hx⟩:=he
   refine kk u (fun b=>if b<w.heap.size then I b else I3 b) w' (vQ _ _ _ hx) ⟨fun b cs e=>?_,fun b hb=>if_pos hb,fun b cs e=>?_,hs.below⟩
   ·show(if b<w.heap.size then I b else I3 b)=_
    rw[if_pos (hm.lt e)];exact e
   ·change(if b<w.heap.size then I b else I3 b)=some cs at e
    split at e
    ·exact hs.cE b cs (hs.le b cs (hle b cs e))
    ·exact hs.cE b cs e
  |panicked _=>exact he.elim
  |outgrown=>exact he.elim
end
def Own.is (x:AV) (v:Value):Own:=⟨none,fun I _=>x.h I v,fun _ _ _ _ hl _ h=>x.up _ _ _ hl h⟩
def vU (ds:List Nat) (a:Act):Env:=ds.map fun t=>(t,AV.val (a.tmps.getD t undef))
theorem Gy {I:Im} {a:Act}:∀ds:List Nat,cF I a (vU ds a)
 |[],t,x,e=>by simp[vU,Env.get] at e
 |s::ds,t,x,e=>by
  simp only[vU,List.map_cons,Env.get] at e
  cases hb:Nat.beq s t with
  |true=>rw[hb] at e;obtain rfl:s=t:=Nat.eq_of_beq_eq_true hb;simp only[cond_true,Option.some.injEq] at e;subst e;exact(rfl:a.tmps.getD s undef=a.tmps.getD s undef)
  |false=>rw[hb] at e;exact Gy ds t x (by simpa[vU] using e)
section
variable {P:Program} {c:Ctx} {I:Im} {H:List Own} {Γ:Env} {a:Act} {w:World} {Q:Exit→Act→World→Prop} {ops:Array Oper} {rest os:List Oper} {Hf:List (Act→Own)} {ms:Meta} {E:TypeId} {sz:Nat} {l:List (List AV)} {v:Value} {x:AV}
theorem St.nf {H':List Own} (hs:St c I H Γ a w) (h:H=H':=by first|(simp only[fill,hole,List.set_cons_zero,List.set_cons_succ,List.cons_append,List.nil_append,List.append_nil];exact rfl)|exact rfl):St c I H' Γ a w:=h▸hs
theorem St.Od (hs:St c I H Γ a w) (h:x.h I v):St c I (H++[Own.is x v]) Γ a w:=
 ⟨hs.step,⟨fun y hy=>by
  rcases List.mem_append.1 hy with hy|hy
  ·exact hs.own.all y hy
  ·obtain rfl:=by simpa using hy
   exact⟨h,fun b e=>by cases e⟩,
  by rw[List.filterMap_append];simpa[Own.is] using hs.own.nodup⟩,hs.env,hs.size,hs.defers⟩
theorem aV.mI {d:Nat} {f:FuncId} {ys:Array Operand} {ts:Array TypeId} {ty:TypeId} {p:String} {af:Array Edge} {xs:List AV} (k:Nat) (hk:Hf[k]?=some fun _=>Own.gone) (hd:Nat.blt d c.n=true) (hf:jo P f xs E sz l)
 (ic:∀I a,cF I a (Γ.only ((⟨some d,.call ⟨.value (.func f),ys,ts⟩,ty,p,af,none⟩:Oper).looksAt ops))→true=true→cN I xs (ys.map a.eval).toList)
 (r:aV P c ops Q ((d,AV.j9)::Γ) (Hf.set k fun a=>Own.row (a.tmps.getD d undef) E sz l) os ms):aV P c ops Q Γ Hf (⟨some d,.call ⟨.value (.func f),ys,ts⟩,ty,p,af,none⟩::os) (([k],some (k,[d]))::ms):=
 aV.cons (u:=some ⟨k,[d],fun a=>Own.row (a.tmps.getD d undef) E sz l⟩) (x:=AV.j9) (qO (g:=fun v=>Own.row v E sz l) fun v v' e=>e▸rfl) (fun F W0 I0 I a w Q hs kk=>by
  refine hs.mI hf ic hd fun I' v a' w' bX=>?_
  have hv:a'.tmps.getD d undef=v:=bX.env d (.val v) (by simp[Env.get])
  have eU:=bX.vF k (jQ hk)
  have sg:=eU.own.all (Own.row v E sz l) (List.mem_of_getElem? (i:=k) (by rw[List.getElem?_set_self (List.getElem?_eq_some_iff.1 (jQ (a:=a) (F:=F) hk)).1]))
  have h1:v.oneCell'=true:=by
   obtain⟨_,⟨_,rfl|⟨q,rfl,_⟩⟩|⟨b,cap,cur,rfl,_⟩⟩:=sg.1<;>rfl
  have ll:St ⟨W0.1,I0,c.n,W0.2⟩ I' ((dy [k] a F 0 Hf).set k (Own.row v E sz l)) ((d,AV.j9)::Γ.only ((⟨some d,.call ⟨.value (.func f),ys,ts⟩,ty,p,af,none⟩:Oper).looksAt ops)) a' w':=
   ⟨eU.step,eU.own,fun t y e=>by
    simp only[Env.get] at e
    cases hb:Nat.beq d t with
    |true=>rw[hb] at e;obtain rfl:d=t:=Nat.eq_of_beq_eq_true hb;simp at e;subst e;rw[hv];exact h1
    |false=>rw[hb] at e;exact eU.env t y (by simp only[Env.get,hb];exact e),eU.size,eU.defers⟩
  exact kk I' a' w' (ll.pass (lW (a':=a') (f:=fun a=>Own.row (a.tmps.getD d undef) E sz l) (by rw[hv])))) r
theorem aV.BK {o:Oper} {d:Nat} (k:Nat) (ds:List Nat) (y:Act→AV) (hk:Hf[k]?=some fun _=>Own.gone) (hg:o.guard=none) (ho:o.dst=some d) (hd:Nat.blt d c.n=true) (hx:∀a a':Act,(∀t∈ds,a.tmps.getD t undef=a'.tmps.getD t undef)→y a=y a') (cD:ds.contains d=false)
 (h:∀F a I,cF I a (Γ.only (o.looksAt ops))→Ok P (dy [k] a F 0 Hf) (vU ds a++Γ.only (o.looksAt ops)) true o (y a))
 (r:aV P c ops Q ((d,AV.any)::Γ) (Hf.set k fun a=>Own.is (y a) (a.tmps.getD d undef)) os ms):aV P c ops Q Γ Hf (o::os) (([k],some (k,d::ds))::ms):=
 aV.cons (u:=some ⟨k,d::ds,fun a=>Own.is (y a) (a.tmps.getD d undef)⟩) (x:=AV.any) (fun v e=>by
  cases e;intro a a' hh
  show Own.is (y a) _=Own.is (y a') _
  rw[hx a a' fun t ht=>hh t (List.mem_cons_of_mem _ ht),hh d (by simp)]) (fun F W0 I0 I a w Q hs kk=>by
  unfold wpList
  rw[if_pos (by simp[Region.wanted,hg])]
  refine .inl (h F a I hs.env _ I a w _ _ ((Gy ds).append hs.env) hs.step.cE hs.own rfl fun v I' w' hv s=>?_)
  rw[ho]
  have gK:d<c.n:=by simpa using hd
  have cr:=hs.size
  have bX:=hs.put (d:=d) (x:=AV.any) (v:=v) gK trivial s
  have BL:(a.put (some d) v).tmps.getD d undef=v:=by simp[Act.put,cr,gK]
  have Gz:y (a.put (some d) v)=y a:=hx _ _ fun t ht=>by
   have bn:d≠t:=fun e=>by
    subst e
    have:ds.contains d=true:=by simpa using ht
    rw[cD] at this;cases this
   simp[Act.put,bn]
  have eU:=(bX.Od (x:=y a) (v:=v) hv).vF k (jQ hk)
  refine kk I' (a.put (some d) v) w' (St.pass (H:=(dy [k] a F 0 Hf).set k (Own.is (y a) v)) ?_ (lW (a':=a.put (some d) v) (f:=fun a=>Own.is (y a) (a.tmps.getD d undef)) (by rw[BL,Gz])))
  rw[ho]
  exact eU) (by rw[ho];exact r)
theorem Oe {g:Bool}:At Γ g (.const (.slice none 0 0)) AV.bare:=fun _ _ _ _=>.inl rfl
theorem Ok.to {g:Bool} {o:Oper} {y:AV} (h:Ok P H Γ g o x) (e:x=y:=by rfl):Ok P H Γ g o y:=e▸h
theorem ss {t:Nat} (he:cF I a Γ) (h:Env.get t Γ=some AV.j9:=by rfl):(AV.val (a.tmps.getD t undef)).One:=fun I v hv=>by
 obtain rfl:v=a.tmps.getD t undef:=hv
 exact he t _ h
theorem St.BM {d:Nat} (k:Nat) (hs:St c I H Γ a w) (hk:H[k]?=some (Own.is x (a.tmps.getD d undef))):St c I (H.set k Own.gone) ((d,x)::Γ) a w:=by
 have hx:=(hs.own.all _ (List.mem_of_getElem? hk)).1
 refine⟨hs.step,⟨fun o ho=>?_,pE hs.own.nodup fun b e=>by cases e⟩,fun t y e=>?_,hs.size,hs.defers⟩
 ·rcases List.mem_or_eq_of_mem_set ho with ho|rfl
  ·exact hs.own.all o ho
  ·exact⟨trivial,fun b e=>by cases e⟩
 ·simp only[Env.get] at e
  cases hb:Nat.beq d t with
  |true=>rw[hb] at e;obtain rfl:d=t:=Nat.eq_of_beq_eq_true hb;simp at e;subst e;exact hx
  |false=>rw[hb] at e;exact hs.env t y (by simpa using e)
theorem Of {g:Bool} {d:Option Tmp} {y z:Operand} {T T' ty:TypeId} {p:String} {af:Array Edge} {gd:Option (Nat×Bool)} {m n:Int} (hy:At Γ g y (.int m)) (hz:At Γ g z (.int n)):
 Ok P H Γ g ⟨d,.call ⟨.builtin .max,#[y,z],#[T,T']⟩,ty,p,af,gd⟩ (.int (if m<n then n else m)):=
 fR fun I a w he hg=>by
  have h1:a.eval y=.int .i64 m:=hy I a he hg
  have h2:a.eval z=.int .i64 n:=hz I a he hg
  simp only[execOp,resolve,invoke,builtin,Sem.run_bind,Sem.run_pure,Result.andThen_ok,List.map_toArray,List.map_cons,List.map_nil,h1,h2]
  simp[Builtin.max_,Builtin.max2]
end
theorem GA {P:Program} {H:List Own} {Γ:Env} {g:Bool} {d:Option Tmp} {ty:TypeId} {p:String} {af:Array Edge} {gd:Option (Nat×Bool)} {f:FuncId} {ys:Array Operand} {ts:Array TypeId} {xs:List AV} {res:AV} (hf:g=true→Fn P f xs res) (h:∀I a,cF I a Γ→g=true→cN I xs (ys.map a.eval).toList):
 Ok P H Γ g ⟨d,.call ⟨.value (.func f),ys,ts⟩,ty,p,af,gd⟩ res:=fun base I a w K Q he hm hw hg k=>cI (hf hg) h base I a w K Q he hm hw hg k
def AV.cut (b o k:Nat):AV:=⟨fun _ v=>∃q c,v=.slice q k c∧(k=0∨q=some ⟨b,o,none⟩),fun _ _ _ _ h=>h⟩
section
variable {P:Program} {c:Ctx} {I:Im} {H:List Own} {Γ:Env} {a:Act} {w:World} {Q:Exit→Act→World→Prop} {ops:Array Oper} {rest:List Oper}
variable {d:Nat} {dd:Option Tmp} {y z z' z2:Operand} {ty T T' E E':TypeId} {p:String} {af:Array Edge} {g:Bool} {gd:Option (Nat×Bool)} {n m:Nat} {zv:Value}
theorem GB {q:Option Addr} {n cap lo hi mx:Nat} {t1 t2 t3:Int} {sz:Nat} {ag:Bool} (hT:P.underlying T=some (.slice E)) (hE:Ty P E ag sz m zv) (h:At Γ g y (.val (.slice q n cap))) (h1:At Γ g z (.int t1)) (h2:At Γ g z' (.int t2)) (h3:At Γ g z2 (.int t3)) (e1:t1=lo) (e2:t2=hi) (e3:t3=mx) (ot:lo≤hi) (Bx:hi≤mx) (qQ:mx≤cap):
 Ok P H Γ g ⟨some d,.slice T y (some z) (some z') (some z2),ty,p,af,gd⟩ .any:=
 fw fun _ I a w he _ _ hg=>by
  subst e1 e2 e3
  have e:a.eval y=_:=h I a he hg
  have e1:a.eval z=_:=h1 I a he hg
  have e2:a.eval z'=_:=h2 I a he hg
  have e3:a.eval z2=_:=h3 I a he hg
  have hs:(sizeOf E).run P w=.ok sz w:=hE.size
  have c1:(lo:Int)≤(hi:Int):=by omega
  have c2:(hi:Int)≤(mx:Int):=by omega
  have c3:(mx:Int)≤(cap:Int):=by omega
  refine⟨sliced q lo hi mx sz,?_,trivial⟩
  simp only[execOp,Option.map_some,Option.map_none,e,e1,e2,e3,Instr.sliceAt,Sem.run_bind,run_underlying hT,Result.andThen_ok]
  simp[Instr.slice,run_underlying hT,Instr.sliceBounds,run_sliceBound,ot,Bx,qQ,c1,c2,c3,hs,sliced]
theorem BN {b n cap lo sz:Nat} {t:Int} {ag:Bool} (hT:P.underlying T=some (.slice E)) (hE:Ty P E ag sz m zv) (h:At Γ g y (.val (.slice (some ⟨b,0,none⟩) n cap))) (h1:At Γ g z (.int t)) (ht:t=lo) (ot:lo≤n) (kj:n≤cap):
 Ok P H Γ g ⟨some d,.slice T y (some z) none none,ty,p,af,gd⟩ (.cut b (lo*sz) (n-lo)):=
 fw fun _ I a w he _ _ hg=>by
  subst ht
  have e:a.eval y=_:=h I a he hg
  have e1:a.eval z=_:=h1 I a he hg
  have hs:(sizeOf E).run P w=.ok sz w:=hE.size
  have c1:(lo:Int)≤(n:Int):=by omega
  refine⟨.slice (if cap=lo then some ⟨b,0,none⟩ else some ⟨b,lo*sz,none⟩) (n-lo) (cap-lo),?_,_,_,rfl,?_⟩
  ·simp only[execOp,Option.map_some,Option.map_none,e,e1,Instr.sliceAt,Sem.run_bind,run_underlying hT,Result.andThen_ok]
   simp[Instr.slice,run_underlying hT,Instr.sliceBounds,run_sliceBound,ot,c1,hs,sliced,add_plain]
  ·split
   ·exact .inl (by omega)
   ·exact .inr rfl
theorem GC {b n cap lo hi sz:Nat} {t t2:Int} {ag:Bool} (hT:P.underlying T=some (.slice E)) (hE:Ty P E ag sz m zv) (h:At Γ g y (.val (.slice (some ⟨b,0,none⟩) n cap))) (h1:At Γ g z (.int t)) (h2:At Γ g z' (.int t2)) (ht:t=lo) (Og:t2=hi) (ot:lo≤hi) (kj:hi≤cap):
 Ok P H Γ g ⟨some d,.slice T y (some z) (some z') none,ty,p,af,gd⟩ (.cut b (lo*sz) (hi-lo)):=
 fw fun _ I a w he _ _ hg=>by
  subst ht Og
  have e:a.eval y=_:=h I a he hg
  have e1:a.eval z=_:=h1 I a he hg
  have e2:a.eval z'=_:=h2 I a he hg
  have hs:(sizeOf E).run P w=.ok sz w:=hE.size
  have c1:(lo:Int)≤(hi:Int):=by omega
  have c2:(hi:Int)≤(cap:Int):=by omega
  refine⟨.slice (if cap=lo then some ⟨b,0,none⟩ else some ⟨b,lo*sz,none⟩) (hi-lo) (cap-lo),?_,_,_,rfl,?_⟩
  ·simp only[execOp,Option.map_some,Option.map_none,e,e1,e2,Instr.sliceAt,Sem.run_bind,run_underlying hT,Result.andThen_ok]
   simp[Instr.slice,run_underlying hT,Instr.sliceBounds,run_sliceBound,ot,kj,c1,c2,hs,sliced,add_plain]
  ·split
   ·exact .inl (by omega)
   ·exact .inr rfl
theorem St.GD {b i cap o2 m2 sz:Nat} {ag:Bool} {L:List (Option AV)} {xs:List AV} (k:Nat) (hs:St c I H Γ a w) (hU:P.underlying T=some (.slice E)) (hE:Ty P E ag sz m zv) (hy:At Γ true y (.val (.slice (some ⟨b,0,none⟩) i cap))) (hz:At Γ true z (.cut b o2 m2)) (hk:H[k]?=some (Own.raw b E L))
 (hx:(L.drop o2).take xs.length=xs.map some) (k0:xs.length=m2*sz) (vx:i+m2≤cap) (ik:i*sz+xs.length≤L.length) (hd:Nat.blt d c.n=true)
 (kk:∀{a' w'},St c I (H.set k (Own.raw b E (over L (i*sz) (xs.map some)))) ((d,.val (.slice (some ⟨b,0,none⟩) (i+m2) cap))::Γ) a' w'→wpList P ops Q rest a' w'):
 wpList P ops Q (⟨some d,.call ⟨.builtin .append,#[y,z],#[T,T]⟩,ty,p,af,none⟩::rest) a w:=by
 have e1:a.eval y=_:=hy I a hs.env rfl
 obtain⟨q,cc,e2,hq⟩:=hz I a hs.env rfl
 obtain⟨cs,h2,h3⟩:=Bt (hs.own.all _ (List.mem_of_getElem? hk)).1 hx
 obtain⟨⟨cur,hb,iL,nx⟩,_⟩:=hs.own.all _ (List.mem_of_getElem? hk)
 have bB:cs.length=m2*sz:=by rw[h2.length,k0]
 obtain⟨ti,hi,qE,fA,tJ⟩:=hE.get
 have hr:(Builtin.append_ #[T,T] ty #[.slice (some ⟨b,0,none⟩) i cap,.slice q m2 cc]).run P w=.ok (.slice (some ⟨b,0,none⟩) (i+m2) cap) (w.setRow b (over cur.toList (i*sz) cs).toArray):=by
  rcases hq with rfl|rfl
  ·have BO:cs=[]:=List.length_eq_zero_iff.1 (by rw[bB,Nat.zero_mul])
   subst BO
   have Oh:(over cur.toList (i*sz) ([]:List Value)).toArray=cur:=by simp[over]
   rw[Oh,setRow_self w b cur E (0,0) hb]
   have A0:(Builtin.firstCells ti.size 0 (.slice q 0 cc)).run P w=.ok #[] w:=by
    cases q with
    |none=>rfl
    |some qa=>simpa using run_firstCells_some (P:=P) w ti.size 0 qa 0 cc [] (by simp) (by simp)
   have Oi:i≤cap:=by omega
   simp[Builtin.append_,run_underlying hU,sizeOf,typeInfo,hi,Builtin.lenOf,Oi,A0,Addr.add_lit,storeCells]
  ·have:=run_append_room (P:=P) w T ty E ti hU hi b i cap cur hb ⟨b,o2,none⟩ m2 cc cs (by rw[bB,qE]) h3 h2.one vx (by rw[qE,bB,←k0,iL];exact ik)
   rw[qE] at this
   exact this
 refine gZ rfl ?_
 unfold Oper.wp
 simp only[execOp,resolve,invoke,builtin,Sem.run_bind,Sem.run_pure,Result.andThen_ok,List.map_toArray,List.map_cons,List.map_nil,e1,e2,hr]
 have bX:=hs.copied k hk hb iL nx h2 ik (o:=i*sz)
 exact kk (bX.kY bX.step (Im.le_refl _) bX.own hd rfl)
theorem Oj {z:Array Value} {n:Nat} (h:∀u∈z.toList,u.oneCell'=true):∀u∈(Builtin.zeroCells z n).toList,u.oneCell'=true:=fun u hu=>by
 unfold Builtin.zeroCells at hu
 simp only[Array.toList_map,List.mem_map] at hu
 obtain⟨i,hi,rfl⟩:=hu
 have hz:0<z.size:=by
  rcases Nat.eq_zero_or_pos z.size with h0|h0
  ·simp[h0] at hi
  ·exact h0
 have bJ:i%z.size<z.size:=Nat.mod_lt _ hz
 rw[getElem!_pos z _ bJ]
 exact h _ (by simp)
theorem St.BP {b o k' sz:Nat} {ag:Bool} {L:List (Option AV)} (k:Nat) (hs:St c I H Γ a w) (hU:P.underlying T=some (.slice E)) (hE:Ty P E ag sz m zv) (fB:zv.cells.size=sz) (np:∀u∈zv.cells.toList,u.oneCell'=true) (hy:At Γ true y (.cut b o k')) (hn:0<k') (hk:H[k]?=some (Own.raw b T' L)) (ik:o+k'*sz≤L.length)
 (kk:∀{a' w'},St c I (H.set k (Own.raw b T' (over L o ((List.replicate (k'*sz) AV.any).map some)))) Γ a' w'→wpList P ops Q rest a' w'):
 wpList P ops Q (⟨none,.call ⟨.builtin .clear,#[y],#[T]⟩,ty,p,af,none⟩::rest) a w:=by
 obtain⟨q,cc,e2,hq⟩:=hy I a hs.env rfl
 obtain rfl:=hq.resolve_left (by omega)
 obtain⟨⟨cur,hb,iL,nx⟩,_⟩:=hs.own.all _ (List.mem_of_getElem? hk)
 obtain⟨ti,hi,qE,fA,tJ⟩:=hE.get
 have nj:(Builtin.zeroCells zv.cells k').toList.length=k'*sz:=by rw[Array.length_toList,size_zeroCells,fB]
 have h1:=Oj (n:=k') np
 have hh:bD I (List.replicate (k'*sz) AV.any) (Builtin.zeroCells zv.cells k').toList:=by
  refine ya (by rw[nj,List.length_replicate]) fun i x hx=>?_
  have jm:i<k'*sz:=by have:=(List.getElem?_eq_some_iff.1 hx).1;simpa using this
  rw[List.getElem?_replicate,if_pos jm] at hx
  cases hx
  have Ol:i<(Builtin.zeroCells zv.cells k').toList.length:=by rw[nj];exact jm
  exact⟨_,List.getElem?_eq_getElem Ol,trivial,h1 _ (List.getElem_mem _)⟩
 have cm:=run_storeCells_at P b o T' (Builtin.zeroCells zv.cells k').toList 0 cur w hb (by rw[nj,iL];simpa using ik) h1
 simp only[Nat.add_zero] at cm
 have Om:(zeroValue E).run P w=.ok zv w:=by simp[zeroValue,typeInfo,hi,tJ]
 have hr:(Builtin.clear_ #[T] ty #[.slice (some ⟨b,o,none⟩) k' cc]).run P w=.ok (.tuple #[]) (w.setRow b (over cur.toList o (Builtin.zeroCells zv.cells k').toList).toArray):=by
  obtain⟨j,rfl⟩:∃j,k'=j+1:=⟨k'-1,by omega⟩
  simp[Builtin.clear_,run_underlying hU,Om,cm,over]
 refine gZ rfl ?_
 unfold Oper.wp
 simp only[execOp,resolve,invoke,builtin,Sem.run_bind,Sem.run_pure,Result.andThen_ok,List.map_toArray,List.map_cons,List.map_nil,e2,hr]
 exact kk (hs.copied k hk hb iL nx hh (by rw[List.length_replicate];exact ik) (o:=o))
def vX (P:Program) (fv:AV) (args:List AV) (h0:List Own) (res:AV):Prop:=
 ∀(I:Im) (w:World) (v:Value) (vs:Array Value),dr w I→fv.h I v→bQ (dN h0) I w h0→cN I args vs.toList→
  ∃f first fC,v=.func (.func f) first fC∧ng P f∧Calls P f (first++vs++fC) w (ou ⟨w,I,0,dN h0⟩ (fun _:Unit=>True) (fun _=>h0) (fun _=>res))
theorem gO.val {f:FuncId} {args fC:List AV} {h0:List Own} {res:AV} (h:gO P f (args++fC) h0 h0 res):vX P (.fn f fC) args h0 res:=fun I w v vs hm ⟨cs,e,hc⟩ ho ha=>
 ⟨f,#[],cs,e,h.1,h.2 I w (#[]++vs++cs) hm ho (by simpa using ha.append hc)⟩
theorem Step.On {F:Nat→Prop} {I':Im} {w':World} (h:Step I w I' w'):en F I w I' w':=
 ⟨h.le,fun b hb _=>h.eB b hb,h.cE,⟨h.below.os,h.below.tape,h.below.output,h.below.size,fun k hk _=>h.below.block k hk⟩⟩
theorem mE.frame {fv:AV} {args:List AV} {h0:List Own} {res:AV} (h:mE P fv args res):vX P fv args h0 res:=fun I w v vs hm hf ho ha=>
 let⟨f,first,fC,e,r7,hc⟩:=h I w v vs hm hf ha
 ⟨f,first,fC,e,r7,hc.mono fun e w' he=>by
   cases e with
   |panicked _=>exact he.elim
   |outgrown=>exact he.elim
   |returned u=>
    obtain⟨I',hs,hx⟩:=he
    exact⟨(),I',trivial,hs.On,(ho.step hs).weaken fun b hb=>Or.inr hb,hx⟩⟩
theorem St.GF {fv res:AV} {ys:Array Operand} {ts:Array TypeId} {xs:List AV} {h0:List Own} (ks:List Nat) (hs:St c I H Γ a w) (hf:vX P fv xs h0 res) (hy:At Γ true y fv) (ic:∀I a,cF I a Γ→true=true→cN I xs (ys.map a.eval).toList) (fS:ks.map (fun k=>H[k]?)=h0.map some) (cD:decide ks.Nodup=true) (hd:Nat.blt d c.n=true)
 (k:∀I' a' w',St c I' (fill (hole H ks) ks h0) ((d,res)::Γ) a' w'→wpList P ops Q rest a' w'):wpList P ops Q (⟨some d,.call ⟨.value y,ys,ts⟩,ty,p,af,none⟩::rest) a w:=by
 have cD:=of_decide_eq_true cD
 have ep:bQ (dN h0) I w h0:=(hs.own.pick fS cD).exact
 obtain⟨f,first,fC,e,r7,hc⟩:=hf I w (a.eval y) (ys.map a.eval) hs.step.cE (hy I a hs.env rfl) ep (ic I a hs.env rfl)
 refine gZ rfl ?_
 unfold Oper.wp
 have hr:(execOp a.eval (⟨some d,.call ⟨.value y,ys,ts⟩,ty,p,af,none⟩:Oper)).run P w=.ok (.enter f (first++ys.map a.eval++fC)) w:=by
  simp only[execOp,resolve,Deferred.ofValue,e,Sem.run_bind,Sem.run_pure,Result.andThen_ok,invoke,r7 _ w]
 rw[hr,Oper.upon_enter]
 refine Calls.mono hc fun e w' he=>?_
 cases e with
 |panicked _=>exact he.elim
 |outgrown=>exact he.elim
 |returned v=>
  obtain⟨x,I',_,cm,ho,hv⟩:=he
  exact k I' _ w' (hs.vM (h1:=fun _:Unit=>h0) (res:=fun _=>res) (x:=()) ks fS cD cm ho hv hd)
end
theorem GG {α:Type} {L X:List α} {o:Nat} (h:o≤L.length):(over L o X).take o=L.take o:=by
 unfold over
 rw[List.append_assoc]
 exact List.take_left' (by simp;omega)
theorem GH {l:List (List AV)} {sz i:Nat} {R Y:List (Option AV)} (dJ:∀r∈l,r.length=sz) (hi:i<l.length):
 (over (over (l.flatten.map some++R) (i*sz) ((l.drop (i+1)).flatten.map some)) ((i+(l.length-(i+1)))*sz) Y).take ((l.take i++l.drop (i+1)).length*sz)=(l.take i++l.drop (i+1)).flatten.map some:=by
 have hA:(l.take i).flatten.length=i*sz:=by rw[fj fun r hr=>dJ r (List.mem_of_mem_take hr),List.length_take,Nat.min_eq_left (by omega)]
 have hB:(l.drop (i+1)).flatten.length=(l.length-(i+1))*sz:=by rw[fj fun r hr=>dJ r (List.mem_of_mem_drop hr),List.length_drop]
 have hF:l.flatten.length=l.length*sz:=fj dJ
 have hlen:(l.take i++l.drop (i+1)).length=i+(l.length-(i+1)):=by simp;omega
 have hm:(i+(l.length-(i+1)))*sz=i*sz+(l.length-(i+1))*sz:=Nat.add_mul _ _ _
 have hle:i*sz+(l.length-(i+1))*sz≤l.length*sz:=by rw[←Nat.add_mul];exact Nat.mul_le_mul_right _ (by omega)
 rw[hlen,GG]
 ·unfold over
  have h1:(l.flatten.map some++R).take (i*sz)=(l.take i).flatten.map some:=by
   have e:l.flatten=(l.take i).flatten++(l.drop i).flatten:=by rw[←List.flatten_append,List.take_append_drop]
   rw[e,List.map_append,List.append_assoc]
   exact List.take_left' (by rw[List.length_map,hA])
  rw[h1,hm,←List.map_append,←List.flatten_append]
  exact List.take_left' (by rw[List.length_map,List.flatten_append,List.length_append,hA,hB])
 ·rw[jC]<;>simp only[List.length_append,List.length_map,hF,hB]<;>omega
end Go.Proofs.YtoeioeimmfpefaaGreat
