/- Part 34: rules of the proofs, contracts of functions, plain facts. -/
import Derived.RangeFuncNested
import Derived.RangeFuncLeaves
import Derived.Test.YtoeioeimmfpefaaGreatP30
set_option linter.unusedVariables false
set_option linter.unusedSimpArgs false
set_option maxHeartbeats 1000000
namespace Go.Proofs.YtoeioeimmfpefaaGreat
open Go Go.RowKit
def th (o:Oper):Bool:=match o.op with|.defer _=>false|_=>true
theorem TR {o:Oper} (h:th o=true):∀c,o.op≠.defer c:=fun c e=>by simp[th,e] at h
section
variable {P:Program} {ops:Array Oper} {Q:Exit→Act→World→Prop} {n:Nat}
theorem TS {F:Fence} {m:Nat} {o:Oper} {a:Act} {N N':Act→World→Prop} {Q':Exit→Act→World→Prop} {r:Result Next} (hd:F.depth=none) (hQ:∀a w,¬Q .outgrown a w)
 (hc:∀f args w R,Calls P f args w R→CallsIn F (m-1) P f args w R) (hr:∀row args w R,Rows P row args w R→RowsIn F (m-1) P row args w R)
 (hN:∀a w,N a w→N' a w) (hq:∀c a w,Q' (.panic c) a w→Q (.panic c) a w) (vL:∀a w,Q' .outgrown a w→Q .outgrown a w) (h:o.upon P a N Q' r):o.uponIn F m P a N' Q r:=by
 have hn:F.depth.isSome=true→1≤m:=by rw[hd];intro e;cases e
 cases r with
 |ok x w=>
  cases x with
  |value v=>exact hN _ _ h
  |skip=>exact hN _ _ h
  |defer d=>exact hN _ _ h
  |enter f args=>
   refine⟨hn,hc f args w _ (Calls.mono h fun e w' he=>?_)⟩
   cases e with
   |returned v=>exact hN _ _ he
   |panicked c=>exact hq _ _ _ he
   |outgrown=>obtain⟨a0,w0,k⟩:=he;exact(hQ _ _ (vL _ _ k)).elim
  |row row args=>exact⟨hn,hr row args w _ (Rows.mono h fun v w' he=>hN _ _ he)⟩
  |_=>exact h.elim
 |halt x w=>
  cases x with
  |panic v=>exact hq _ _ _ h
  |_=>exact h.elim
theorem DN {F:Fence} (hF:∀f,F.fn f) (hd:F.depth=none) (hQ:∀a w,¬Q .outgrown a w)
 (hc:∀f args w R,Calls P f args w R→CallsIn F (n-1) P f args w R) (hr:∀row args w R,Rows P row args w R→RowsIn F (n-1) P row args w R) {rest:List Oper}:
 ∀(pre:List Oper),pre.all th=true→∀a w,wpList P ops (Exit.then (wpListIn F n P ops Q rest) Q) pre a w→wpListIn F n P ops Q (pre++rest) a w
 |[],_,a,w,h=>h
 |o::pre,hp,a,w,h=>by
  simp only[List.all_cons,Bool.and_eq_true] at hp
  have ih:=DN hF hd hQ hc hr (rest:=rest) pre hp.2
  simp only[List.cons_append,wpListIn]
  simp only[wpList] at h
  split
  ·rename_i hw
   rw[if_pos hw] at h
   rcases h with h|⟨_,a0,w0,h⟩
   ·refine⟨fun f _=>hF f,?_⟩
    rw[Oper.semAt_eq _ _ _ (TR hp.1)]
    exact TS hd hQ hc hr ih (fun _ _ _ h=>h) (fun _ _ h=>h) h
   ·exact(hQ _ _ h).elim
  ·rename_i hw
   rw[if_neg hw] at h
   exact⟨fun f _=>hF f,ih _ _ h⟩
theorem zN (hQ:∀a w,¬Q .outgrown a w) {a:Act} {w:World} (rest pre:List Oper) (hp:pre.all th=true) (h:wpList P ops (Exit.then (wpListIn Fence.wide n P ops Q rest) Q) pre a w):wpListIn Fence.wide n P ops Q (pre++rest) a w:=
 DN (fun _=>trivial) rfl hQ (fun f args w R h=>callsIn_wide.2 h) (fun row args w R h c cs _=>let⟨v,w',r,s⟩:=h c cs;⟨v,w',r,stepsIn_wide.2 s⟩) pre hp a w h
theorem list_round (lp:Nat) (hQ:∀a w,¬Q .outgrown a w) {a:Act} {w:World} (rest pre:List Oper) (hp:pre.all th=true) (h:wpList P ops (Exit.then (wpListIn (Fence.wide.inRound lp) n P ops Q rest) Q) pre a w):wpListIn (Fence.wide.inRound lp) n P ops Q (pre++rest) a w:=
 DN (fun _=>trivial) rfl hQ (fun f args w R h=>CallsIn.inRound lp (callsIn_wide.2 h)) (fun row args w R h c cs _=>let⟨v,w',r,s⟩:=h c cs;⟨v,w',r,stepsIn_wide.2 s⟩) pre hp a w h
theorem then_self {F:Fence}:Exit.then (wpListIn F n P ops Q []) Q=Q:=by
 funext e a w;cases e<;>rfl
theorem uO {id:Nat} {l:List Oper} (hQ:∀a w,¬Q .outgrown a w) {a:Act} {w:World} (hp:l.all th=true) (h:wpList P l.toArray Q l a w):(Code.region id l.toArray false).wpIn Fence.wide n P Q a w:=
 wpIn_region_lit (by
  have:=zN (P:=P) (ops:=l.toArray) (n:=n) hQ (a:=a) (w:=w) [] l hp (by rw[then_self];exact h)
  simpa using this)
theorem DO {id lp:Nat} {l:List Oper} (hQ:∀a w,¬Q .outgrown a w) {a:Act} {w:World} (hp:l.all th=true) (h:wpList P l.toArray Q l a w):(Code.region id l.toArray false).wpIn (Fence.wide.inRound lp) n P Q a w:=
 wpIn_region_lit (by
  have:=list_round (P:=P) (ops:=l.toArray) (n:=n) lp hQ (a:=a) (w:=w) [] l hp (by rw[then_self];exact h)
  simpa using this)
def Act.defer (a:Act) (ds:List Deferred):Act:={a with defers:=a.defers++ds}
theorem uP (a:Act) (ds:List Deferred) (d:Option Tmp) (v:Value):(Act.defer a ds).put d v=Act.defer (a.put d v) ds:=by
 cases d<;>rfl
theorem KD (a:Act) (ds:List Deferred):(Act.defer a ds).eval=a.eval:=by
 funext o;cases o<;>rfl
theorem KE (ds:List Deferred) {N:Exit→Act→World→Prop} (hN:∀e a w,Q e a w→N e (Act.defer a ds) w):
 ∀(l:List Oper) (a:Act) (w:World),wpList P ops Q l a w→wpList P ops N l (Act.defer a ds) w
 |[],a,w,h=>hN _ _ _ h
 |o::l,a,w,h=>by
  have ih:=KE ds hN l
  simp only[wpList] at h⊢
  have e1:Region.wanted o (yielded ops (Act.defer a ds).tmps)=Region.wanted o (yielded ops a.tmps):=rfl
  rw[e1]
  split
  ·rename_i hw
   rw[if_pos hw] at h
   rcases h with h|⟨h,a0,w0,k⟩
   ·refine .inl ?_
    unfold Oper.wp at h⊢
    rw[KD]
    cases hr:(execOp a.eval o).run P w with
    |ok x w'=>
     rw[hr] at h
     cases x with
     |value v=>show wpList _ _ _ _ _ _;rw[uP];exact ih _ _ h
     |skip=>show wpList _ _ _ _ _ _;rw[uP];exact ih _ _ h
     |defer d=>have:=ih _ _ h;rw[←uP] at this;exact this
     |enter f args=>
      refine Calls.mono (show Calls _ _ _ _ _ from h) fun e w' he=>?_
      cases e with
      |returned v=>show wpList _ _ _ _ _ _;rw[uP];exact ih _ _ he
      |panicked c=>exact hN _ _ _ he
      |outgrown=>obtain⟨a0,w0,k⟩:=he;exact⟨_,_,hN _ _ _ k⟩
     |row row args=>exact Rows.mono (show Rows _ _ _ _ _ from h) fun v w' he=>by show wpList _ _ _ _ _ _;rw[uP];exact ih _ _ he
     |_=>exact h.elim
    |halt x w'=>
     rw[hr] at h
     cases x with
     |panic v=>exact hN _ _ _ h
     |_=>exact h.elim
   ·refine .inr ⟨?_,_,_,hN _ _ _ k⟩
    unfold Oper.asks at h⊢
    rw[KD];exact h
  ·rename_i hw
   rw[if_neg hw] at h
   rw[uP];exact ih _ _ h
end
theorem dr.grown {w w':World} {I:Im} {row:Option Nat} (h:dr w I) (hg:w.grownBy w' row) (hr:∀r,row=some r→∃o:Obj,w.heap[r]?=some o∧o.isCells=false):dr w' I:=fun b cs e=>by
 obtain⟨T,fr,k⟩:=h b cs e
 exact⟨T,fr,(grownBy_keeps_cells hg hr k rfl).trans k⟩
theorem TU {F:Fence} {n:Nat} {P:Program} {Q:Exit→Act→World→Prop} {next:Act→World→Prop} {R:Ending→World→Prop} {a:Act} {w:World} {d:Tmp} {t:Operand} {ys:Array Operand} {ts:Array TypeId} {ty:TypeId} {p:String} {af:Array Edge}
 {l:Nat} {xs:Array Value} (hF:∀f,F.fn f) (hd:F.depth=none) (hv:a.eval t=.func (.yield l) #[] #[]) (hx:ys.map a.eval=xs) (hy:YieldAt F (n-1) P l xs w R)
 (k:∀e w',R e w'→∃v,e=.returned v∧next (a.put (some d) v) w'):Oper.wpIn F n P ⟨some d,.call ⟨.value t,ys,ts⟩,ty,p,af,none⟩ a w next Q:=by
 obtain⟨fn,tmps,assign,body,hr,hR⟩:=hy
 refine⟨fun f _=>hF f,?_⟩
 rw[Oper.semAt_eq _ _ _ (fun c e=>by cases e)]
 have eS:(execOp a.eval (⟨some d,.call ⟨.value t,ys,ts⟩,ty,p,af,none⟩:Oper)).run P w=.ok (.round l fn tmps assign body) w:=by
  simp only[execOp,resolve,hv,hx]
  simp[go_sem,hr]
 rw[eS]
 refine⟨fun e=>(by rw[hd] at e;cases e),RoundIn.mono hR fun e w' he=>?_⟩
 obtain⟨v,rfl,h⟩:=k e w' he
 exact h
theorem St.enter {W:World} {I:Im} {N:Nat} {F:Nat→Prop} {args:List AV} {vs:Array Value} {m:Nat} (hm:dr W I) (ha:cN I args vs.toList) (hn:vs.size+(m-vs.size)=N):
 St ⟨W,I,N,F⟩ I [] (ki 0 args) {tmps:=vs++Array.replicate (m-vs.size) undef,defers:=[]} W:=by
 refine⟨en.refl hm,bQ.nil _ _ _,?_,by simp;omega,rfl⟩
 intro t x e
 have:=vh args vs.toList [] (List.replicate (m-vs.size) undef) ha t x e
 have heq:(vs++Array.replicate (m-vs.size) undef)=([]++vs.toList++List.replicate (m-vs.size) undef).toArray:=by
  apply Array.toList_inj.1;simp
 rw[heq];exact this
theorem Kept.trans {F:Nat→Prop} {A B C:World} (h:Kept F A B) (k:Kept F B C):Kept F A C:=
 ⟨k.os.trans h.os,k.tape.trans h.tape,k.output.trans h.output,Nat.le_trans h.size k.size,fun i hi hf=>(k.block i (Nat.lt_of_lt_of_le hi h.size) hf).trans (h.block i hi hf)⟩
theorem dr.kept {F:Nat→Prop} {A B:World} {I:Im} (h:dr A I) (hF:∀b cs,I b=some cs→¬F b) (k:Kept F A B):dr B I:=fun b cs e=>by
 obtain⟨T,fr,hb⟩:=h b cs e
 exact⟨T,fr,(k.block b (h.lt e) (hF b cs e)).trans hb⟩
theorem St.zO {c:Ctx} {I:Im} {H:List Own} {Γ:Env} {a:Act} {w:World} {d:Nat} {x:AV} {v:Value} (hs:St c I H Γ a w) (hd:d<c.n) (hx:x.h I v):St c I H ((d,x)::Γ) (a.put (some d) v) w:=
 ⟨hs.step,hs.own,hs.env.put (by rw[hs.size];exact hd) hx,by simp[Act.put,hs.size],hs.defers⟩
theorem TV {F:Nat→Prop} {P:Program} {f:FuncId} {fn:Func} {code:Code} {n:Nat} {I:Im} {W:World} {args:List AV} {vs:Array Value} {R:Ending→World→Prop} (N:Nat) (hf:P.funcs[f]?=some fn) (hb:fn.body=some code) (hn:fn.ntmps=N)
 (hN:Nat.ble args.length N=true) (hm:dr W I) (ha:cN I args vs.toList) (h:∀a,St ⟨W,I,N,F⟩ I [] (ki 0 args) a W→code.wpIn Fence.wide n P (bodyPost P fn R) a W):CallsIn Fence.wide n P f vs W R:=
 callsIn_of_wp hf hb trivial (h _ (St.enter hm ha (by have h1:=ha.length;have h2:=Nat.le_of_ble_eq_true hN;rw[Array.length_toList] at h1;omega)))
theorem TW {F:Nat→Prop} {P:Program} {f:FuncId} {fn:Func} {code:Code} {n:Nat} {I:Im} {W:World} {args:List AV} {vs:Array Value} {R:Ending→World→Prop} (N:Nat) (hf:P.funcs[f]?=some fn) (hb:fn.body=some code) (hn:fn.ntmps=N)
 (hN:Nat.ble args.length N=true) (hm:dr W I) (ha:cN I args vs.toList) (h:∀a,St ⟨W,I,N,F⟩ I [] (ki 0 args) a W→code.wpIn Fence.wide n P (bodyPostM Fence.wide n P fn R) a W):CallsIn Fence.wide n P f vs W R:=
 callsIn_of_wp_marks hf hb trivial (h _ (St.enter hm ha (by have h1:=ha.length;have h2:=Nat.le_of_ble_eq_true hN;rw[Array.length_toList] at h1;omega)))
theorem DP:∀{l:List (Nat×Value)} {t:Nat} {x:AV},Env.get t (l.map fun p=>(p.1,AV.val p.2))=some x→∃v,(t,v)∈l∧x=.val v
 |[],t,x,e=>by simp[Env.get] at e
 |p::l,t,x,e=>by
  simp only[List.map_cons,Env.get] at e
  cases hb:Nat.beq p.1 t with
  |true=>
   rw[hb] at e
   obtain rfl:p.1=t:=Nat.eq_of_beq_eq_true hb
   exact⟨p.2,by simp,(Option.some.inj e).symm⟩
  |false=>
   rw[hb] at e
   obtain⟨v,h1,h2⟩:=DP (l:=l) e
   exact⟨v,List.mem_cons_of_mem _ h1,h2⟩
theorem St.base {c:Ctx} {I:Im} {H:List Own} {Γ:Env} {a:Act} {w:World} (l:List (Nat×Value)) (hs:St c I H Γ a w) (hl:l.map (fun p=>Env.get p.1 Γ)=l.map (fun p=>some (AV.val p.2)):=by rfl):St ⟨w,c.I,c.n,jL⟩ c.I [] (l.map fun p=>(p.1,AV.val p.2)) a w:=by
 refine⟨en.refl fun b cs e=>hs.step.cE b cs (hs.step.le b cs e),bQ.nil _ _ _,fun t x e=>?_,hs.size,hs.defers⟩
 obtain⟨v,hv,rfl⟩:=DP e
 have:=List.map_inj_left.1 hl _ hv
 exact hs.env t _ this
theorem St.BC {G:Nat→Prop} {c:Ctx} {I:Im} {H:List Own} {Γ:Env} {a:Act} {w w':World} (l:List (Nat×Value)) (hs:St c I H Γ a w) (hG:∀b cs,c.I b=some cs→¬G b) (k:Kept G w w') (hl:l.map (fun p=>Env.get p.1 Γ)=l.map (fun p=>some (AV.val p.2)):=by rfl):St ⟨w',c.I,c.n,jL⟩ c.I [] (l.map fun p=>(p.1,AV.val p.2)) a w':=
 have h:=hs.base l hl
 ⟨en.refl (h.step.cE.kept hG k),bQ.nil _ _ _,h.env,h.size,h.defers⟩
theorem St.blank {c:Ctx} {I:Im} {H:List Own} {Γ:Env} {a:Act} {w:World} (w':World) (l:List (Nat×Value)) (hs:St c I H Γ a w) (hl:l.map (fun p=>Env.get p.1 Γ)=l.map (fun p=>some (AV.val p.2)):=by rfl):St ⟨w',fun _=>none,c.n,jL⟩ (fun _=>none) [] (l.map fun p=>(p.1,AV.val p.2)) a w':=
 have h:=hs.base l hl
 ⟨en.refl fun b cs e=>(by cases e),bQ.nil _ _ _,fun t x e=>(by obtain⟨v,_,rfl⟩:=DP e;exact h.env t _ e),h.size,h.defers⟩
theorem St.grown {c:Ctx} {I:Im} {H:List Own} {Γ:Env} {a:Act} {w:World} (hs:St c I H Γ a w) (hF:c.F=jL):c.W.grownBy w none:=
 ⟨hs.step.below.os,hs.step.below.tape,hs.step.below.output,hs.step.below.size,fun k hk _=>hs.step.below.block k hk (by rw[hF];exact fun h=>h)⟩
theorem KF {I:Im}:∀{l:List AV} {cs:List Value},bD I l cs→bD I (cs.map AV.val) cs
 |[],[],_=>trivial
 |_::_,_::_,h=>⟨⟨rfl,h.1.2⟩,KF h.2⟩
 |[],_::_,h=>h.elim
 |_::_,[],h=>h.elim
theorem KG {I:Im}:∀{r cs:List Value},bD I (r.map AV.val) cs→cs=r
 |[],[],_=>rfl
 |x::r,y::cs,h=>by rw[KG h.2,show y=x from h.1.1]
 |[],_::_,h=>h.elim
 |_::_,[],h=>h.elim
theorem TX {I:Im} {r:List Value} {v:Value} (h:(AV.agg (r.map AV.val)).h I v):v=.agg r.toArray:=by
 obtain⟨cs,e,hc⟩:=h
 rw[e,←KG hc]
theorem KH {I:Im} {sz:Nat}:∀{l:List (List AV)} {cs:List Value},(∀r∈l,r.length=sz)→bD I l.flatten cs→
 ∃vs:List (List Value),vs.length=l.length∧vs.flatten=cs∧(∀r∈vs,r.length=sz)∧∀i,i<l.length→bD I (nth l i) (vs.getD i [])
 |[],[],_,_=>⟨[],rfl,rfl,by simp,fun i h=>by simp at h⟩
 |[],_::_,_,h=>h.elim
 |r::l,cs,hr,h=>by
  have h1:bD I r (cs.take sz):=(h.take r.length).cast (by simp) (by rw[hr r (by simp)])
  have h2:bD I l.flatten (cs.drop sz):=(h.drop r.length).cast (by simp) (by rw[hr r (by simp)])
  obtain⟨vs,e1,e2,e3,e4⟩:=KH (fun x hx=>hr x (by simp[hx])) h2
  refine⟨cs.take sz::vs,by simp[e1],by simp[e2],fun x hx=>?_,fun i hi=>?_⟩
  ·rcases List.mem_cons.1 hx with rfl|hx
   ·rw[h1.length];exact hr r (by simp)
   ·exact e3 x hx
  ·cases i with
   |zero=>exact h1
   |succ i=>exact e4 i (by simpa using hi)
theorem TY {I:Im} {sz:Nat} {l:List (List AV)} {v:Value} (h:(AV.rows sz l).h I v):
 ∃vs:List (List Value),vs.length=l.length∧(∀r∈vs,r.length=sz)∧(AV.rows sz (vs.map (·.map AV.val))).h I v∧∀i,i<l.length→bD I (nth l i) (vs.getD i []):=by
 obtain⟨p,cap,e,h1,h2,h3,h4,h5⟩:=h
 rcases h4 with rfl|⟨q,hq,hs,cs,hI,hh⟩
 ·exact⟨[],rfl,by simp,⟨p,cap,e,h1,h2,by simp,.inl rfl,h5⟩,fun i hi=>by simp at hi⟩
 ·obtain⟨vs,e1,e2,e3,e4⟩:=KH h3 hh
  have e5:(vs.map (·.map AV.val)).flatten=vs.flatten.map AV.val:=(List.map_flatten ..).symm
  refine⟨vs,e1,e3,⟨p,cap,by rw[List.length_map,e1];exact e,by rw[List.length_map,e1];exact h1,h2,fun r hr=>?_,.inr ⟨q,hq,hs,cs,hI,?_⟩,h5⟩,e4⟩
  ·obtain⟨x,hx,rfl⟩:=List.mem_map.1 hr
   rw[List.length_map];exact e3 x hx
  ·rw[e5,List.length_map,e2]
   refine(KF hh).cast rfl ?_
   rw[hh.length]
theorem St.oU {P:Program} {c:Ctx} {I:Im} {H:List Own} {Γ:Env} {a:Act} {w:World} {Q:Exit→Act→World→Prop} {ops:Array Oper} {rest:List Oper} {d:Nat} {op:Op} {ty:TypeId} {p:String} {af:Array Edge} {x y:AV} {v:Value} (t:Nat)
 (hs:St c I H Γ a w) (hy:y.h c.I v) (ok:Ok P H ((t,y)::Γ) true ⟨some d,op,ty,p,af,none⟩ x) (k:∀{I' a' w'},St c I' H ((d,x)::Γ) a' w'→wpList P ops Q rest a' w') (ht:Env.get t Γ=some (.val v):=by rfl) (hd:Nat.blt d c.n=true:=by rfl):
 wpList P ops Q (⟨some d,op,ty,p,af,none⟩::rest) a w:=by
 unfold wpList
 rw[if_pos (by simp[Region.wanted])]
 exact .inl (ok c.own I a w _ _ (hs.tK ht (y.up _ _ _ hs.step.le hy)).env hs.step.cE hs.own rfl fun v I' w' hx s=>k (hs.put (by simpa using hd) hx s))
theorem St.re {c:Ctx} {I:Im} {H:List Own} {Γ:Env} {a:Act} {w:World} (hs:St c I H Γ a w):St ⟨w,I,c.n,dN H⟩ I H Γ a w:=
 ⟨en.refl hs.step.cE,hs.own.exact.weaken fun b h=>.inr h,hs.env,hs.size,hs.defers⟩
theorem St.un {c:Ctx} {I I2:Im} {H H2:List Own} {Γ Γ2:Env} {a a2:Act} {w w2:World} (hs:St c I H Γ a w) (h:St ⟨w,I,c.n,dN H⟩ I2 H2 Γ2 a2 w2):St c I2 H2 Γ2 a2 w2:=by
 have ep:∀b,dN H b→c.own b:=fun b k=>(let⟨o,ho,hb⟩:=List.mem_filterMap.1 k;((hs.own.all o ho).2 b hb).1)
 have mX:∀b,b<c.W.heap.size→¬c.F b→¬dN H b:=fun b h1 h2 h3=>(ep b h3).elim (fun h=>by omega) h2
 have cr:=hs.step.below.size
 refine⟨⟨Im.le_trans hs.step.le h.step.le,fun b hb hf=>(h.step.eB b (Nat.lt_of_lt_of_le hb cr) (mX b hb hf)).trans (hs.step.eB b hb hf),h.step.cE,
  ⟨h.step.below.os.trans hs.step.below.os,h.step.below.tape.trans hs.step.below.tape,h.step.below.output.trans hs.step.below.output,Nat.le_trans cr h.step.below.size,
   fun k hk hf=>(h.step.below.block k (Nat.lt_of_lt_of_le hk cr) (mX k hk hf)).trans (hs.step.below.block k hk hf)⟩⟩,
  ⟨fun o ho=>⟨(h.own.all o ho).1,fun b hb=>⟨?_,((h.own.all o ho).2 b hb).2⟩⟩,h.own.nodup⟩,h.env,h.size,h.defers⟩
 rcases((h.own.all o ho).2 b hb).1 with k|k
 ·exact .inl (Nat.le_trans cr k)
 ·exact ep b k
def boxes (H:List Own):Prop:=∀o∈H,∃b T l,o=Own.box b T l
theorem KI {base:Nat→Prop} {I:Im} {w:World} {H:List Own} (h:bQ base I w H) (hb:boxes H) {b:Nat} (k:dN H b):∃o:Obj,w.heap[b]?=some o∧o.isCells=true:=by
 obtain⟨o,ho,e⟩:=List.mem_filterMap.1 k
 obtain⟨b',T,l,rfl⟩:=hb o ho
 obtain rfl:b'=b:=Option.some.inj e
 obtain⟨⟨cs,h1,_⟩,_⟩:=h.all _ ho
 exact⟨_,h1,rfl⟩
theorem St.keeps {I I2:Im} {H H2:List Own} {Γ2:Env} {a2:Act} {w w2:World} {n:Nat} {base:Nat→Prop} (h:St ⟨w,I,n,dN H⟩ I2 H2 Γ2 a2 w2) (ho:bQ base I w H) (hb:boxes H):KeepsOthers w w2:=
 ⟨h.step.below.size,fun k o hk hc=>(h.step.below.block k (Array.getElem?_eq_some_iff.1 hk).1 fun e=>by
  obtain⟨o',h1,h2⟩:=KI ho hb e
  rw[hk] at h1;cases h1;rw[hc] at h2;cases h2).trans hk⟩
theorem St.zP {c:Ctx} {I:Im} {H:List Own} {Γ:Env} {a:Act} {w w':World} {row:Option Nat} (hs:St c I H Γ a w) (hb:boxes H) (hg:w.grownBy w' row) (hr:∀r,row=some r→c.W.heap.size≤r∧∃o:Obj,w.heap[r]?=some o∧o.isCells=false):St c I H Γ a w':=by
 have ld:∀b,(∃o:Obj,w.heap[b]?=some o∧o.isCells=true)→w'.heap[b]?=w.heap[b]?:=fun b ⟨o,h1,h2⟩=>grownBy_keeps_cells hg (fun r e=>(hr r e).2) h1 h2
 refine⟨⟨hs.step.le,hs.step.eB,hs.step.cE.grown hg fun r e=>(hr r e).2,⟨hg.os.trans hs.step.below.os,hg.tape.trans hs.step.below.tape,hg.output.trans hs.step.below.output,Nat.le_trans hs.step.below.size hg.size,
  fun k hk hf=>(hg.block k (Nat.lt_of_lt_of_le hk hs.step.below.size) fun e=>by have:=(hr k e.symm).1;omega).trans (hs.step.below.block k hk hf)⟩⟩,⟨fun o ho=>?_,hs.own.nodup⟩,hs.env,hs.size,hs.defers⟩
 obtain⟨h1,h2⟩:=hs.own.all o ho
 refine⟨o.fN I I w w' (Im.le_refl I) (fun b e=>ld b (KI hs.own hb (List.mem_filterMap.2 ⟨o,ho,e⟩))) h1,fun b e=>?_⟩
 obtain⟨k1,k2,k3⟩:=h2 b e
 exact⟨k1,k2,Nat.lt_of_lt_of_le k3 hg.size⟩
theorem St.back {c:Ctx} {I I2:Im} {H H2 H3:List Own} {Γ Γ2:Env} {a a2:Act} {w w2:World} (hs:St c I H Γ a w) (h:St c I2 (H2++H3) Γ2 a2 w2) (hle:Im.le I I2):St c I2 H2 Γ a w2:=
 ⟨h.step,⟨fun o ho=>h.own.all o (List.mem_append_left _ ho),by have:=h.own.nodup;rw[List.filterMap_append] at this;exact(List.nodup_append.1 this).1⟩,hs.env.up hle,hs.size,hs.defers⟩
theorem TZ {G:Nat→Prop} {n0:Nat} (hG:∀b,n0≤b→G b) (W:World) (l:Nat) (o':Obj) (h:n0≤l):Kept G W (W.putObj l o'):=by
 have hg:=grownBy_putObj' W l o'
 exact⟨hg.os,hg.tape,hg.output,hg.size,fun k hk hf=>hg.block k hk fun e=>hf (by cases e;exact hG l h)⟩
theorem get_mem:∀{Γ:Env} {t:Nat} {x:AV},Env.get t Γ=some x→(t,x)∈Γ
 |[],t,x,e=>by simp[Env.get] at e
 |p::r,t,x,e=>by
  simp only[Env.get] at e
  cases hb:Nat.beq p.1 t with
  |true=>rw[hb] at e;obtain rfl:p.1=t:=Nat.eq_of_beq_eq_true hb
         obtain rfl:p.2=x:=Option.some.inj e
         exact List.mem_cons_self ..
  |false=>rw[hb] at e;exact List.mem_cons_of_mem _ (get_mem e)
theorem St.pick {c:Ctx} {I:Im} {H:List Own} {Γ:Env} {a:Act} {w:World} (Γ':Env) (hs:St c I H Γ a w) (h:Γ'.map (fun p=>Env.get p.1 Γ)=Γ'.map (fun p=>some p.2):=by rfl):St c I H Γ' a w:=
 ⟨hs.step,hs.own,fun t x e=>hs.env t x (List.map_inj_left.1 h _ (get_mem e)),hs.size,hs.defers⟩
theorem St.leave {P:Program} {c:Ctx} {I:Im} {H:List Own} {Γ:Env} {a:Act} {w:World} {n D:Nat} {fn:Func} {rs:List ResultVar} {xs:List AV} {res:AV} (hs:St c I H Γ a w) (hb:boxes H) (hD:c.W.heap.size≤D) (hK:w.heap[D]?=some (.deferred (some []))) (hF:c.F=jL)
 (hr:fn.results=rs.toArray) (h:aU P H Γ rs xs) (e:pJ xs=res):LeavesInM Fence.wide n P fn a.tmps (tC c.I c.W res) [{target:=.collected D,args:=#[]}] .returning w:=by
 subst e
 have eU:=hs.zP hb (grownBy_putObj' w D (.deferred none)) (fun r e=>by cases e;exact⟨hD,_,hK,rfl⟩)
 obtain⟨v,h1,h2⟩:=eU.vB hr h
 refine⟨by simp,.inl ⟨_,_,rfl,run_takeDeferred hK,v,h1,I,?_,h2⟩⟩
 have:=eU.step
 rw[hF] at this
 exact this.all
theorem Kept.mono {F G:Nat→Prop} {A B:World} (h:Kept F A B) (k:∀b,F b→G b):Kept G A B:=⟨h.os,h.tape,h.output,h.size,fun i hi hf=>h.block i hi fun e=>hf (k i e)⟩
theorem St.KJ {c:Ctx} {I I2:Im} {H H2:List Own} {Γ Γ2:Env} {a a2:Act} {w w2:World} {n:Nat} (hs:St c I H Γ a w) (h:St ⟨w,I,n,dN H⟩ I2 H2 Γ2 a2 w2):Kept c.own w w2:=
 h.step.below.mono fun b k=>(let⟨o,ho,hb⟩:=List.mem_filterMap.1 k;((hs.own.all o ho).2 b hb).1)
theorem St.uQ {c:Ctx} {I:Im} {H H':List Own} {Γ:Env} {a:Act} {w:World} (hs:St c I H Γ a w) (e:H=H'):St c I H' Γ a w:=e▸hs
end Go.Proofs.YtoeioeimmfpefaaGreat
set_option linter.unusedVariables false
set_option linter.unusedSimpArgs false
set_option maxRecDepth 100000
set_option maxHeartbeats 4000000
namespace Go.Proofs.YtoeioeimmfpefaaGreat
open Go Go.RowKit
attribute [local irreducible] wpList Code.wp Ok
theorem T0 (l:List aK):
 Fn Tryz.prog 248 [cv l] (AV.fn 252 [AV.ptr [cv l]]):=by
 refine Fn.intro 4 Tryz.func248 rfl Tryz.ntmps248 rfl (by kernel_rfl) (fun W I a hs=>?_)
 refine sr ?_
 refine hs.o (tH .tt (by first|exact iY rfl|exact jj|exact jk|exact jl)) fun hs=>?_
 refine hs.sc fun hs=>nn<|sr<|hs.o (lQ (aw .tt aP)) fun hs=>hs.s fun hs=>nn<|wp_ret ?_
 refine hs.rt ?_
 rfl
abbrev qw (l:List aK) (I0:Im):={x:Nat×Value//x.1<l.length∧(ab l x.1).av.h I0 x.2}
def rE {l:List aK} {I0:Im} (xs:List (qw l I0)):Prop:=∀j x,xs[j]?=some x→x.1.1+1+j=l.length
theorem rE.snoc {l:List aK} {I0:Im} {xs:List (qw l I0)} {x:qw l I0} (h:rE xs) (hx:x.1.1+1+xs.length=l.length):rE (xs++[x]):=fun j y e=>by
 rcases Nat.lt_or_ge j xs.length with hj|hj
 ·rw[List.getElem?_append_left hj] at e;exact h j y e
 ·rw[List.getElem?_append_right hj] at e
  cases hk:j-xs.length with
  |zero=>rw[hk] at e;obtain rfl:x=y:=by simpa using e
         rw[show j=xs.length from by omega];exact hx
  |succ k=>rw[hk] at e;simp at e
def DQ (a:Act):Nat:=match a.tmps.getD 3 undef with|.int _ x=>(x+1).toNat|_=>0
theorem KK {c:Ctx} {I:Im} {H:List Own} {Γ:Env} {a:Act} {w:World} {k:Nat} (hs:St c I H Γ a w) (h:Env.get 3 Γ=some (.int ((k:Int)-1)):=by rfl):DQ a=k:=by
 have:=hs.env 3 _ h
 unfold DQ
 rw[show a.tmps.getD 3 undef=_ from this];simp
def DR (r:List Value):List AV:=[.val (r.getD 0 undef),.val (r.getD 1 undef),.val (r.getD 2 undef),.val (r.getD 3 undef),.val (r.getD 4 undef),.val (r.getD 5 undef),.val (r.getD 6 undef)]
theorem KL {r:List Value} (h:r.length=7):r.map AV.val=DR r:=by
 match r,h with
 |[a,b,c,d,e,f,g],_=>rfl
theorem T3 (l:List aK) (n:Nat) (hn:1≤n) (I0:Im) (w0:World) (hm:dr w0 I0) (G:Nat→Prop) (hG:∀b cs,I0 b=some cs→¬G b) (p:Value) (hp:(AV.ptr [cv l]).h I0 p):
 SeqStopsK Fence.wide n Tryz.prog 252 #[p] (fun x:qw l I0=>#[.int .i64 x.1.1,x.1.2]) (Kept G) (fun xs=>xs.length=l.length∧rE xs) rE l.length w0:=fun lp J Jx W hW hJ T4 hY h0=>by
 have T5:dr W I0:=fun b cs e=>by
  obtain⟨T,fr,k⟩:=hm b cs e
  exact⟨T,fr,(hW.block b (hm.lt e)).trans k⟩
 obtain⟨vs,mC,zL,uR⟩:∃vs:List (List Value),vs.length=l.length∧(AV.ptr [AV.rows 7 (vs.map DR)]).h I0 p∧∀i,i<l.length→bD I0 (ab l i).cells (vs.getD i [])∧(AV.agg (ab l i).cells).h I0 (.agg (ab vs i).toArray)∧(ab vs i).length=7:=by
  obtain⟨q,e,h1,cs,h2,h3⟩:=hp
  generalize hd:(cs.toList.drop q.off).take 1=ds at h3
  match ds,h3 with
  |[v],h3=>
   obtain⟨vs,e1,e4,e2,e3⟩:=TY h3.1.1
   rw[List.map_congr_left fun r hr=>KL (e4 r hr)] at e2
   refine⟨vs,by simpa using e1,⟨q,e,h1,cs,h2,by show bD _ _ (List.take 1 _);rw[hd];exact⟨⟨e2,h3.1.2⟩,trivial⟩⟩,fun i hi=>?_⟩
   have:=e3 i (by simpa using hi)
   rw[MH aK.cells l i hi,show l[i]! =ab l i from by simp[ab,hi]] at this
   have hv:i<vs.length:=by rw[e1];simpa using hi
   have he:vs.getD i []=ab vs i:=by simp[ab,hv]
   exact⟨this,⟨_,rfl,by rw[←he];exact this⟩,e4 _ (bx hv)⟩
 refine TV (F:=jL) 19 Tryz.func252 rfl Tryz.ntmps252 (args:=[.val (.func (.yield lp) #[] #[]),.val p]) rfl T5 ⟨rfl,rfl,trivial⟩ fun a hs=>?_
 have hQ:∀a w,¬bodyPost Tryz.prog Tryz.f252 (fun e W'=>(∃v,e=.returned v)∧((∃xs:List (qw l I0),(xs.length=l.length∧rE xs)∧J xs W')∨∃pre,rE pre∧Jx pre W')) .outgrown a w:=fun a w h=>by obtain⟨⟨v,e⟩,_⟩:=h;cases e
 have zQ:∀{A B:World} {xs},A.grownBy B none→J xs A→J xs B:=fun h k=>hJ _ _ _ none k h (fun r e=>by cases e)
 have T6:∀{A B:World} {xs},A.grownBy B none→Jx xs A→Jx xs B:=fun h k=>T4 _ _ _ none k h (fun r e=>by cases e)
 refine wpIn_seq (uO (by exact hQ) rfl ?_)
 refine hs.oU 1 zL .l1 fun{I a w} hs=>?_
 have hle:=hs.ew (t:=4) rfl
 refine aB fun I a w hs=>?_
 refine nn ?_
 refine wpIn_block (wpIn_loop (fun a w=>∃(k:Nat) (pre:List (qw l I0)),St ⟨w,I0,19,jL⟩ I0 [] [(3,.int ((k:Int)-1)),(1,.val p),(0,.val (.func (.yield lp) #[] #[]))] a w∧pre.length+k=l.length∧rE pre∧J pre w) (fun a _=>DQ a) ?_ ?_)
 ·refine⟨l.length,[],?_,by simp,fun j x e=>by simp at e,zQ (hs.grown rfl) h0⟩
  refine(hs.base [(3,.int .i64 ((l.length:Int)-1)),(1,p),(0,.func (.yield lp) #[] #[])] (by rw[←mC];rfl))
 rintro a w ⟨k,pre,hs,hk,hd,KM⟩
 have T7:=KK hs
 refine wpIn_seq (wpIn_seq (uO (by exact hQ) rfl ?_))
 refine ai fun I a w hs=>?_
 refine nn ?_
 refine wpIn_cond_split (hs.env 8 _ rfl) (fun ae=>?_) (fun ae=>?_)
 ·refine wpIn_skip ?_
  refine aG ?_
  have ae:1≤k:=by simp only[B] at ae;omega
  refine wpIn_seq (wpIn_block (wpIn_seq (wpIn_region_lit ?_)))
  refine zN (by exact hQ) [_,_] [_,_,_,_,_,_] rfl ?_
  have jP:k≤vs.length:=by omega
  refine ai fun I a w hs=>?_
  refine hs.oU 1 zL .l1 fun{I a w} hs=>?_
  refine aB fun I a w hs=>?_
  have T8:=zQ (hs.grown rfl) KM
  have hx:((k:Int)-1).toNat<l.length:=by omega
  refine nn (wpListIn_plain rfl fun K hK=>?_)
  have C2:a.eval (.tmp 12)=.int .i64 ((((k:Int)-1).toNat:Nat):Int):=by
   rw[show a.eval (.tmp 12)=.int .i64 ((k:Int)-1) from hs.env 12 _ rfl];congr 1;omega
  have T9:a.eval (.tmp 16)=.agg (ab vs ((k:Int)-1).toNat).toArray:=by
   have:(AV.agg (DR (ab vs ((k:Int)-1).toNat))).h I (a.eval (.tmp 16)):=hs.env 16 _ rfl
   rw[←KL (uR _ hx).2.2] at this
   exact TX this
  have jg:(#[.tmp 12,.tmp 16]:Array Operand).map a.eval=#[.int .i64 ((((k:Int)-1).toNat:Nat):Int),.agg (ab vs ((k:Int)-1).toNat).toArray]:=by simp[C2,T9]
  refine TU (fun _=>trivial) rfl (hs.env 11 _ rfl) jg (hY pre ⟨(((k:Int)-1).toNat,.agg (ab vs ((k:Int)-1).toNat).toArray),hx,(uR _ hx).2.1⟩ w T8 (by omega)) fun e w' he=>?_
  have w9:=hd.snoc (x:=⟨(((k:Int)-1).toNat,.agg (ab vs ((k:Int)-1).toNat).toArray),hx,(uR _ hx).2.1⟩) (by show((k:Int)-1).toNat+1+_=_;omega)
  rcases he with⟨rfl,DS,BA⟩|⟨rfl,DS⟩
  ·refine⟨_,rfl,hK _ _ ?_⟩
   have hs:=(hs.BC [(3,.int .i64 ((k:Int)-1)),(1,p),(0,.func (.yield lp) #[] #[])] hG BA).zO (d:=17) (x:=.bool true) (v:=.bool true) (show 17<19 from by decide) rfl
   refine zN (by exact hQ) [] [_] rfl ?_
   refine az fun I a w hs=>?_
   refine nn ?_
   refine aG ?_
   refine wpIn_cond_split (hs.env 18 _ rfl) (fun ah=>by cases ah) (fun ah=>?_)
   refine wpIn_skip ?_
   refine eI ?_
   refine aG ?_
   refine uO (by exact hQ) rfl ?_
   refine aB fun I a w hs=>?_
   have h3:St _ _ _ _ _ _:=hs.base [(3,.int .i64 ((((k-1:Nat)):Int)-1)),(1,p),(0,.func (.yield lp) #[] #[])] (by rw[show(((k-1:Nat):Int)-1)=(k:Int)-1-1 from by omega];rfl)
   refine wpList_nil (aG ?_)
   refine⟨⟨k-1,_,h3,by simp;omega,w9,zQ (hs.grown rfl) DS⟩,?_⟩
   rw[T7,KK (k:=k-1) h3];omega
  ·refine⟨_,rfl,hK _ _ ?_⟩
   have hs:=(hs.blank w' []).zO (d:=17) (x:=.bool false) (v:=.bool false) (show 17<19 from by decide) rfl
   refine zN (by exact hQ) [] [_] rfl ?_
   refine az fun I a w hs=>?_
   refine nn ?_
   refine aG ?_
   refine wpIn_cond_split (hs.env 18 _ rfl) (fun ah=>?_) (fun ah=>by cases ah)
   refine wpIn_ret ?_
   refine bh (aE (aE (bh ?_)))
   exact⟨hs.defers,_,results_none rfl _ _ _,⟨_,rfl⟩,.inr ⟨_,w9,T6 (hs.grown rfl) DS⟩⟩
 ·refine wpIn_exit ?_
  refine aF (aF (aY ?_))
  have hk0:k=0:=by
   have ae:¬(0≤(k:Int)-1):=by simpa using ae
   omega
  exact⟨hs.defers,_,results_none rfl _ _ _,⟨_,rfl⟩,.inl ⟨_,⟨by omega,hd⟩,zQ (hs.grown rfl) KM⟩⟩
theorem KN (l:List aK) (key:Int) (hd:∀v∈l,v.aS.length≤1048576):Fn Tryz.prog 233 [cv l,.int key] (.c9 [((fG l key).getD default).av,.bool (fG l key).isSome]):=by
 refine⟨ng.of Tryz.func233 rfl (by kernel_rfl),fun I0 w0 vs hm ha=>(callsIn_wide (n:=3)).1 ?_⟩
 refine TW (F:=jL) 19 Tryz.func233 rfl Tryz.ntmps233 rfl hm ha fun a hs=>?_
 have hQ:∀a w',¬bodyPostM Fence.wide 3 Tryz.prog Tryz.f233 (tC I0 w0 (.c9 [((fG l key).getD default).av,.bool (fG l key).isSome])) .outgrown a w':=fun a w' h=>h
 refine wpIn_seq (uO (by exact hQ) rfl ?_)
 refine hs.o (tH .tt (by first|exact iY rfl|exact jj|exact jk|exact jl)) fun hs=>?_
 refine hs.alloc rfl bt dO fun b4 I a w hs=>?_
 refine hs.alloc rfl v5 OF fun b5 I a w hs=>?_
 refine nn (wpIn_seq (wpIn_seq (uO (by exact hQ) rfl ?_)))
 refine az fun I a w hs=>?_
 refine hs.o (.c1 (T0 l)) fun{I1 a1 w1} hs=>nn ?_
 refine wpIn_block ?_
 obtain⟨p,Ua,hp⟩:∃p,a1.eval (.tmp 9)=.func (.func 252) #[] #[p]∧(AV.ptr [cv l]).h I1 p:=by
  obtain⟨cs,e,h⟩:=hs.env 9 _ rfl
  obtain⟨cs⟩:=cs
  match cs,h with
  |[p],h=>exact⟨p,e,h.1⟩
 have Ub:=hs
 have hs:=hs.re
 obtain⟨H1,rF⟩:∃H1,H1=[Own.box b4 100 [AV.val (.int .i64 0),AV.val (.int .i64 0),AV.val (.int .i64 0),AV.val (.int .i64 0),AV.val (.int .i64 0),AV.val (.int .i64 0),AV.rows 3 []],Own.box b5 4 [AV.bool false]]:=⟨_,rfl⟩
 have ae:boxes H1:=fun o ho=>by
  rw[rF] at ho
  rcases List.mem_cons.1 ho with rfl|ho
  ·exact⟨_,_,_,rfl⟩
  ·rcases List.mem_cons.1 ho with rfl|ho
   ·exact⟨_,_,_,rfl⟩
   ·cases ho
 have KO:∀u v,boxes [Own.box b4 100 u,Own.box b5 4 v]:=fun u v o ho=>by
  rcases List.mem_cons.1 ho with rfl|ho
  ·exact⟨_,_,_,rfl⟩
  ·rcases List.mem_cons.1 ho with rfl|ho
   ·exact⟨_,_,_,rfl⟩
   ·cases ho
 have hs:St ⟨w1,I1,19,dN H1⟩ I1 H1 [(5,.val (.pointer (some ⟨b5,0,none⟩))),(4,.val (.pointer (some ⟨b4,0,none⟩))),(3,.ptr [.int key])] a1 w1:=by
  rw[rF];exact hs.pick _
 have bJ:∀b,dN H1 b→b<w1.heap.size∧I1 b=none:=fun b h=>by
  obtain⟨o,ho,e⟩:=List.mem_filterMap.1 h
  exact⟨((hs.own.all o ho).2 b e).2.2,((hs.own.all o ho).2 b e).2.1⟩
 have xR:=hs
 have ky:St _ I1 H1 [(5,.val (.pointer (some ⟨b5,0,none⟩))),(4,.val (.pointer (some ⟨b4,0,none⟩)))] a1 w1:=(Ub.pick _).uQ (by rw[rF];rfl)
 have fin:∀{D:Nat} {W:World} {a2 a3:Act} {I:Im} {u:List AV} {b:Bool} {Γ:Env},w1.heap.size≤D→St ⟨w1,I1,19,dN H1⟩ I [Own.box b4 100 u,Own.box b5 4 [.bool b]] ((5,.val (.pointer (some ⟨b5,0,none⟩)))::(4,.val (.pointer (some ⟨b4,0,none⟩)))::Γ) a2 W→W.heap[D]?=some (.deferred (some []))→u.length=7→AV.c9 [.agg u,.bool b]=.c9 [((fG l key).getD default).av,.bool (fG l key).isSome]→
  a3.tmps=a2.tmps→a3.defers=[{target:=.collected D,args:=#[]}]→bodyPostM Fence.wide 3 Tryz.prog Tryz.f233 (tC I0 w0 (.c9 [((fG l key).getD default).av,.bool (fG l key).isSome])) .ret a3 W:=fun{D W a2 a3 I u b Γ} hD hi hK hu he h1 h2=>by
  show LeavesInM _ _ _ _ a3.tmps _ a3.defers _ _
  rw[h1,h2]
  exact(ky.un hi).leave (KO _ _) (Nat.le_trans ky.step.below.size hD) hK rfl rfl (.cons (.s 0 bt rfl rfl hu) (.cons (.cc 1 v5 rfl rfl) aU.nil)) he
 refine wpIn_rangeFunc_ownH (n:=3) rfl (by decide) Ua trivial (ng.of Tryz.func252 rfl (by kernel_rfl)) (T3 l 2 (by decide) I1 w1 hs.step.cE (fun b=>w1.heap.size≤b∨dN H1 b) (fun b cs e h=>h.elim (fun h=>by have:=hs.step.cE.lt e;omega) fun h=>by rw[(bJ b h).2] at e;cases e) p hp)
  (fun h k=>h.trans k) (fun W l o o' h _ _ _=>TZ (fun b h=>.inl h) W l o' h) (Below.refl _ _) (fun _=>rfl)
  (fun pre W=>(∀x∈pre,qf key (ab l x.1.1)=false)∧∃I,St ⟨w1,I1,19,dN H1⟩ I H1 [(5,.val (.pointer (some ⟨b5,0,none⟩))),(4,.val (.pointer (some ⟨b4,0,none⟩))),(3,.ptr [.int key])] a1 W)
  (fun c (pre:List (qw l I1)) W=>c=.ret∧∃(x:qw l I1) (q:List (qw l I1)),pre=q++[x]∧(∀y∈q,qf key (ab l y.1.1)=false)∧qf key (ab l x.1.1)=true∧∃I,St ⟨w1,I1,19,dN H1⟩ I [Own.box b4 100 (ab l x.1.1).cells,Own.box b5 4 [AV.bool true]] [(5,.val (.pointer (some ⟨b5,0,none⟩))),(4,.val (.pointer (some ⟨b4,0,none⟩))),(3,.ptr [.int key])] a1 W)
  (fun s A B row h hg hr=>⟨h.1,h.2.imp fun I k=>k.zP ae hg hr⟩)
  (fun c s A B row h hg hr=>by obtain⟨h0,x,q,e,h1,h2,I,k⟩:=h;exact⟨h0,x,q,e,h1,h2,I,k.zP (KO _ _) hg hr⟩)
  ⟨fun x h=>(by cases h),I1,hs⟩
  (fun x a' W=>∃I b7,St ⟨w1,I1,19,dN H1⟩ I (H1++[Own.box b7 100 (ab l x.1.1).cells]) [(7,.val (.pointer (some ⟨b7,0,none⟩))),(5,.val (.pointer (some ⟨b5,0,none⟩))),(4,.val (.pointer (some ⟨b4,0,none⟩))),(3,.ptr [.int key])] a' W)
  (fun x a' s A B row h hg hr=>h.imp fun I k=>k.imp fun b7 k=>k.zP (fun o ho=>(List.mem_append.1 ho).elim (ae o) fun ho=>⟨_,_,_,List.mem_singleton.1 ho⟩) hg hr)
  ?assign ?body ?done ?stop
 case assign=>
  rintro l1 pre x W K ⟨mX,I,hi⟩ hK
  have hr:=hi.re
  have e:({tmps:=(((#[10,11]:Array Nat).zip #[Value.int .i64 x.1.1,x.1.2]).foldl (fun t (p,v)=>t.setIfInBounds p v) a1.tmps),defers:=[]}:Act)=(a1.put (some 10) (.int .i64 x.1.1)).put (some 11) x.1.2:=by
   have:=hi.defers
   cases a1;simp at this;subst this;simp[Act.put]
  have hs:=(hr.zO (d:=10) (x:=.int x.1.1) (v:=.int .i64 x.1.1) (show 10<19 from by decide) rfl).zO (d:=11) (x:=(ab l x.1.1).av) (v:=x.1.2) (show 11<19 from by decide) ((ab l x.1.1).av.up _ _ _ hi.step.le x.2.2)
  rw[←e] at hs
  have hs:=hs.uQ rF
  refine DO (by exact fun _ _ h=>h) rfl ?_
  refine hs.alloc rfl bt dO fun b7 I2 a w hs=>?_
  refine az fun I2 a w hs=>?_
  have hs:St _ I2 (H1++[Own.box b7 100 (ab l x.1.1).cells]) [(7,.val (.pointer (some ⟨b7,0,none⟩))),(5,.val (.pointer (some ⟨b5,0,none⟩))),(4,.val (.pointer (some ⟨b4,0,none⟩))),(3,.ptr [.int key])] a w:=(hs.pick _).uQ (by rw[rF];rfl)
  have hu:=hi.un hs
  refine wpList_nil (aG ?_)
  exact hK _ _ ((hs.keeps hi.own ae).from _) (hi.KJ hs) ⟨mX,_,xR.back hu hu.step.le⟩ ⟨_,_,hu⟩
 case body=>
  rintro l1 pre x a' W hl _ ⟨mX,_⟩ ⟨I,b7,hi⟩ hlen
  have aj:boxes (H1++[Own.box b7 100 (ab l x.1.1).cells]):=fun o ho=>(List.mem_append.1 ho).elim (ae o) fun ho=>⟨_,_,_,List.mem_singleton.1 ho⟩
  have hs:=hi.re.uQ (H':=[Own.box b4 100 [AV.val (.int .i64 0),AV.val (.int .i64 0),AV.val (.int .i64 0),AV.val (.int .i64 0),AV.val (.int .i64 0),AV.val (.int .i64 0),AV.rows 3 []],Own.box b5 4 [AV.bool false],Own.box b7 100 (ab l x.1.1).cells]) (by rw[rF];rfl)
  refine wpIn_block (wpIn_seq (DO (by exact fun _ _ h=>h) rfl ?_))
  refine aJ fun I2 a w hs=>?_
  refine nn ?_
  refine wpIn_cond_split (hs.env 15 _ rfl) (fun hb=>?_) (fun hb=>?_)
  ·refine wpIn_seq (DO (by exact fun _ _ h=>h) rfl ?_)
   refine az fun I2 a w hs=>?_
   refine hs.o (.c1 (sN _ (hd _ (bx x.2.1)))) fun hs=>?_
   refine ai fun I2 a w hs=>?_
   refine nn (wpIn_ret (bh ?_))
   have hs:St _ I2 ([Own.box b4 100 (ab l x.1.1).cells,Own.box b5 4 [.bool true]]++[Own.box b7 100 (ab l x.1.1).cells]) [(3,.ptr [.int key])] a w:=hs.pick _
   have hu:=hi.un hs
   exact⟨(hs.keeps hi.own aj).from _,rfl,x,pre,rfl,mX,hb,_,xR.back hu hu.step.le⟩
  ·refine wpIn_skip (eI ?_)
   have hs:St _ I2 (H1++[Own.box b7 100 (ab l x.1.1).cells]) [(3,.ptr [.int key])] a w:=(hs.pick _).uQ (by rw[rF];rfl)
   have hu:=hi.un hs
   exact⟨(hs.keeps hi.own aj).from _,hi.KJ hs,fun y hy=>(List.mem_append.1 hy).elim (mX y) fun hy=>by rw[List.mem_singleton.1 hy];exact hb,_,xR.back hu hu.step.le⟩
 case done=>
  rintro D xs W hD ⟨hlen,nr⟩ ⟨mX,I,hi⟩ hK
  have DT:fG l key=none:=Iz fun i hi=>by
   have hj:l.length-1-i<xs.length:=by omega
   have:=nr _ _ (List.getElem?_eq_getElem hj)
   have h2:=mX _ (List.getElem_mem hj)
   rw[show i=xs[l.length-1-i].1.1 from by omega];exact h2
  refine eI (aG (wpIn_seq (uO (by exact hQ) rfl ?_)))
  have e:({a1 with defers:={target:=.collected D,args:=#[]}::a1.defers}:Act)=Act.defer a1 [{target:=.collected D,args:=#[]}]:=by simp[Act.defer,hi.defers]
  rw[e]
  have hs:=hi.re.uQ rF
  refine KE (Q:=Exit.then (fun a' W'=>∃I',St ⟨W,I,19,dN H1⟩ I' [Own.box b4 100 [AV.val (.int .i64 0),AV.val (.int .i64 0),AV.val (.int .i64 0),AV.val (.int .i64 0),AV.val (.int .i64 0),AV.val (.int .i64 0),AV.rows 3 []],Own.box b5 4 [.bool false]] [(5,.val (.pointer (some ⟨b5,0,none⟩))),(4,.val (.pointer (some ⟨b4,0,none⟩)))] a' W') (fun _ _ _=>False)) _ (fun e a' W' h=>?_) _ _ _ ?_
  ·cases e with
   |normal=>
    obtain⟨I',h⟩:=h
    refine aG (wpIn_ret ?_)
    exact fin hD (hi.un h) ((h.keeps hi.own ae).same D _ hK rfl) rfl (by rw[DT];rfl) rfl (by simp[Act.defer,h.defers])
   |_=>exact h.elim
  ·refine hs.o (.bd dO aZ.nil) fun hs=>?_
   refine ai fun I2 a w hs=>?_
   exact wpList_nil (aG ⟨_,hs.pick _⟩)
 case stop=>
  rintro D c pre W hD KP ⟨rfl,x,q,rfl,hq,iB,I,hi⟩ hK
  have hx:x.1.1+1+q.length=l.length:=KP q.length x (by simp)
  have DT:fG l key=some (ab l x.1.1):=Iy x.2.1 (fun i h1 h2=>by
   have hj:l.length-1-i<q.length:=by omega
   have:=KP (l.length-1-i) q[l.length-1-i] (by rw[List.getElem?_append_left hj,List.getElem?_eq_getElem hj])
   have h3:=hq _ (List.getElem_mem hj)
   rw[show i=q[l.length-1-i].1.1 from by omega];exact h3) iB
  refine wpIn_ret (bh (aE ?_))
  exact fin hD hi hK rfl (by rw[DT];rfl) rfl (by simp[hi.defers])
end Go.Proofs.YtoeioeimmfpefaaGreat
