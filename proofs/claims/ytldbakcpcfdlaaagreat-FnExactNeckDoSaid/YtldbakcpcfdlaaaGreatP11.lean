/- Part 11: rules of the proofs. -/
import Derived.RangeFuncNested
import Derived.RangeFuncLeaves
import Derived.Test.YtldbakcpcfdlaaaGreatP10
set_option linter.all false
set_option maxHeartbeats 1000000
namespace Go.Proofs.YtldbakcpcfdlaaaGreat
open Go Go.RowKit Tryz
def uG (o:Oper):Bool:=match o.op with|.defer _=>false|_=>true
def Uo {o:Oper} (h:uG o=true):∀c,o.op≠.defer c:=λc e=>by simp[uG,e] at h
section
variable {P:Program} {ops:Array Oper} {Q:Exit->Act->World->Prop} {n:Nat}
def Up {F:Fence} {m:Nat} {o:Oper} {a:Act} {N N':Act->World->Prop} {Q':Exit->Act->World->Prop} {r:Result Next} (hd:F.depth=none) (hQ:∀a w,¬Q .outgrown a w)
 (hc:∀f args w R,Calls P f args w R->CallsIn F (m-1) P f args w R) (hr:∀row args w R,Rows P row args w R->RowsIn F (m-1) P row args w R)
 (hN:∀a w,N a w->N' a w) (hq:∀c a w,Q' (.panic c) a w->Q (.panic c) a w) (yL:∀a w,Q' .outgrown a w->Q .outgrown a w) (h:o.upon P a N Q' r):o.uponIn F m P a N' Q r:=by
 have hn:F.depth.isSome=true->1<=m:=by rw[hd];intro e;cases e
 cases r with
 |ok x w=>
  cases x with
  |value v=>exact hN _ _ h
  |skip=>exact hN _ _ h
  |defer d=>exact hN _ _ h
  |enter f args=>
   refine⟨hn,hc f args w _ (Calls.mono h λe w' he=>?_)⟩
   cases e with
   |returned v=>exact hN _ _ he
   |panicked c=>exact hq _ _ _ he
   |outgrown=>obtain⟨a0,w0,k⟩:=he;exact(hQ _ _ (yL _ _ k)).elim
  |row row args=>exact⟨hn,hr row args w _ (Rows.mono h λv w' he=>hN _ _ he)⟩
  |_=>exact h.elim
 |halt x w=>
  cases x with
  |panic v=>exact hq _ _ _ h
  |_=>exact h.elim
def FN {F:Fence} (hF:∀f,F.fn f) (hd:F.depth=none) (hQ:∀a w,¬Q .outgrown a w)
 (hc:∀f args w R,Calls P f args w R->CallsIn F (n-1) P f args w R) (hr:∀row args w R,Rows P row args w R->RowsIn F (n-1) P row args w R) {rest:List Oper}:
 ∀(pre:List Oper),pre.all uG=true->∀a w,wpList P ops (Exit.then (wpListIn F n P ops Q rest) Q) pre a w->wpListIn F n P ops Q (pre++rest) a w
 |[],_,a,w,h=>h
 |o::pre,hp,a,w,h=>by
  simp only[List.all_cons,Bool.and_eq_true] at hp;have ih:=FN hF hd hQ hc hr (rest:=rest) pre hp.2;simp only[List.cons_append,wpListIn];simp only[wpList] at h;split
  .rename_i hw;rw[if_pos hw] at h;rcases h with h|⟨_,a0,w0,h⟩
   .refine⟨λf _=>hF f,?_⟩;rw[Oper.semAt_eq _ _ _ (Uo hp.1)];exact Up hd hQ hc hr ih (λ_ _ _ h=>h) (λ_ _ h=>h) h
   exact(hQ _ _ h).elim
  rename_i hw;rw[if_neg hw] at h;exact⟨λf _=>hF f,ih _ _ h⟩
def BO (hQ:∀a w,¬Q .outgrown a w) {a:Act} {w:World} (rest pre:List Oper) (hp:pre.all uG=true) (h:wpList P ops (Exit.then (wpListIn Fence.wide n P ops Q rest) Q) pre a w):wpListIn Fence.wide n P ops Q (pre++rest) a w:=
 FN (λ_=>trivial) rfl hQ (λf args w R h=>callsIn_wide.2 h) (λrow args w R h c cs _=>let⟨v,w',r,s⟩:=h c cs;⟨v,w',r,stepsIn_wide.2 s⟩) pre hp a w h
def list_round (lp:Nat) (hQ:∀a w,¬Q .outgrown a w) {a:Act} {w:World} (rest pre:List Oper) (hp:pre.all uG=true) (h:wpList P ops (Exit.then (wpListIn (Fence.wide.inRound lp) n P ops Q rest) Q) pre a w):wpListIn (Fence.wide.inRound lp) n P ops Q (pre++rest) a w:=
 FN (λ_=>trivial) rfl hQ (λf args w R h=>CallsIn.inRound lp (callsIn_wide.2 h)) (λrow args w R h c cs _=>let⟨v,w',r,s⟩:=h c cs;⟨v,w',r,stepsIn_wide.2 s⟩) pre hp a w h
def then_self {F:Fence}:Exit.then (wpListIn F n P ops Q []) Q=Q:=by
 funext e a w;cases e<;>rfl
def wG {id:Nat} {l:List Oper} (hQ:∀a w,¬Q .outgrown a w) {a:Act} {w:World} (hp:l.all uG=true) (h:wpList P l.toArray Q l a w):(Code.region id l.toArray false).wpIn Fence.wide n P Q a w:=
 wpIn_region_lit (by
  have:=BO (P:=P) (ops:=l.toArray) (n:=n) hQ (a:=a) (w:=w) [] l hp (by rw[then_self];exact h);simpa using this)
def FO {id lp:Nat} {l:List Oper} (hQ:∀a w,¬Q .outgrown a w) {a:Act} {w:World} (hp:l.all uG=true) (h:wpList P l.toArray Q l a w):(Code.region id l.toArray false).wpIn (Fence.wide.inRound lp) n P Q a w:=
 wpIn_region_lit (by
  have:=list_round (P:=P) (ops:=l.toArray) (n:=n) lp hQ (a:=a) (w:=w) [] l hp (by rw[then_self];exact h);simpa using this)
def Act.defer (a:Act) (ds:List Deferred):Act:={a with defers:=a.defers++ds}
def wH (a:Act) (ds:List Deferred) (d:Option Tmp) (v:Value):(Act.defer a ds).put d v=Act.defer (a.put d v) ds:=by
 cases d<;>rfl
def Lk (a:Act) (ds:List Deferred):(Act.defer a ds).eval=a.eval:=by
 funext o;cases o<;>rfl
def Ll (ds:List Deferred) {N:Exit->Act->World->Prop} (hN:∀e a w,Q e a w->N e (Act.defer a ds) w):
 ∀(l:List Oper) (a:Act) (w:World),wpList P ops Q l a w->wpList P ops N l (Act.defer a ds) w
 |[],a,w,h=>hN _ _ _ h
 |o::l,a,w,h=>by
  have ih:=Ll ds hN l;simp only[wpList] at h⊢;have e1:Region.wanted o (yielded ops (Act.defer a ds).tmps)=Region.wanted o (yielded ops a.tmps):=rfl;rw[e1];split
  .rename_i hw;rw[if_pos hw] at h;rcases h with h|⟨h,a0,w0,k⟩
   .refine .inl ?_;unfold Oper.wp at h⊢;rw[Lk];cases hr:(execOp a.eval o).run P w with
    |ok x w'=>
     rw[hr] at h
     cases x with
     |value v=>show wpList _ _ _ _ _ _;rw[wH];exact ih _ _ h
     |skip=>show wpList _ _ _ _ _ _;rw[wH];exact ih _ _ h
     |defer d=>have:=ih _ _ h;rw[<-wH] at this;exact this
     |enter f args=>
      refine Calls.mono (show Calls _ _ _ _ _ from h) λe w' he=>?_
      cases e with
      |returned v=>show wpList _ _ _ _ _ _;rw[wH];exact ih _ _ he
      |panicked c=>exact hN _ _ _ he
      |outgrown=>obtain⟨a0,w0,k⟩:=he;exact⟨_,_,hN _ _ _ k⟩
     |row row args=>exact Rows.mono (show Rows _ _ _ _ _ from h) λv w' he=>by show wpList _ _ _ _ _ _;rw[wH];exact ih _ _ he
     |_=>exact h.elim
    |halt x w'=>
     rw[hr] at h
     cases x with
     |panic v=>exact hN _ _ _ h
     |_=>exact h.elim
   refine .inr ⟨?_,_,_,hN _ _ _ k⟩;unfold Oper.asks at h⊢;rw[Lk];exact h
  rename_i hw;rw[if_neg hw] at h;rw[wH];exact ih _ _ h
end
def dR.grown {w w':World} {I:Im} {row:Option Nat} (h:dR w I) (hg:w.grownBy w' row) (hr:∀r,row=some r->∃o:Obj,w.heap[r]?=some o/\o.isCells=false):dR w' I:=λb cs e=>by
 obtain⟨T,fr,k⟩:=h b cs e;exact⟨T,fr,(grownBy_keeps_cells hg hr k rfl).trans k⟩
def Uq {F:Fence} {n:Nat} {P:Program} {Q:Exit->Act->World->Prop} {next:Act->World->Prop} {R:Ending->World->Prop} {a:Act} {w:World} {d:Tmp} {t:Operand} {ys:Array Operand} {ts:Array TypeId} {ty:TypeId} {p:String} {af:Array Edge}
 {l:Nat} {xs:Array Value} (hF:∀f,F.fn f) (hd:F.depth=none) (hv:a.eval t=.func (.yield l) #[] #[]) (hx:ys.map a.eval=xs) (hy:YieldAt F (n-1) P l xs w R)
 (k:∀e w',R e w'->∃v,e=.returned v/\next (a.put (some d) v) w'):Oper.wpIn F n P ⟨some d,.call ⟨.value t,ys,ts⟩,ty,p,af,none⟩ a w next Q:=by
 obtain⟨fn,tmps,assign,body,hr,hR⟩:=hy;refine⟨λf _=>hF f,?_⟩;rw[Oper.semAt_eq _ _ _ (λc e=>by cases e)];have iN:(execOp a.eval (⟨some d,.call ⟨.value t,ys,ts⟩,ty,p,af,none⟩:Oper)).run P w=.ok (.round l fn tmps assign body) w:=by
  simp only[execOp,resolve,hv,hx];simp[go_sem,hr]
 rw[iN];refine⟨λe=>(by rw[hd] at e;cases e),RoundIn.mono hR λe w' he=>?_⟩;obtain⟨v,rfl,h⟩:=k e w' he;exact h
def St.enter {W:World} {I:Im} {N:Nat} {F:Nat->Prop} {args:List AV} {vs:Array Value} {m:Nat} (hm:dR W I) (ha:c7 I args vs.toList) (hn:vs.size+(m-vs.size)=N):
 St ⟨W,I,N,F⟩ I [] (js 0 args) {tmps:=vs++Array.replicate (m-vs.size) undef,defers:=[]} W:=by
 refine⟨eR.refl hm,bQ.nil _ _ _,?_,by simp;omega,rfl⟩;intro t x e;have:=yi args vs.toList [] (List.replicate (m-vs.size) undef) ha t x e;have heq:(vs++Array.replicate (m-vs.size) undef)=([]++vs.toList++List.replicate (m-vs.size) undef).toArray:=by
  apply Array.toList_inj.1;simp
 rw[heq];exact this
def Kept.trans {F:Nat->Prop} {A B C:World} (h:Kept F A B) (k:Kept F B C):Kept F A C:=
 ⟨k.os.trans h.os,k.tape.trans h.tape,k.output.trans h.output,Nat.le_trans h.size k.size,λi hi hf=>(k.block i (Nat.lt_of_lt_of_le hi h.size) hf).trans (h.block i hi hf)⟩
def dR.kept {F:Nat->Prop} {A B:World} {I:Im} (h:dR A I) (hF:∀b cs,I b=some cs->¬F b) (k:Kept F A B):dR B I:=λb cs e=>by
 obtain⟨T,fr,hb⟩:=h b cs e;exact⟨T,fr,(k.block b (h.lt e) (hF b cs e)).trans hb⟩
def St.BP {c:Ctx} {I:Im} {H:List Own} {Γ:Env} {a:Act} {w:World} {d:Nat} {x:AV} {v:Value} (U:St c I H Γ a w) (hd:d<c.n) (hx:x.h I v):St c I H ((d,x)::Γ) (a.put (some d) v) w:=
 ⟨U.step,U.own,U.env.put (by rw[U.size];exact hd) hx,by simp[Act.put,U.size],U.defers⟩
def Ur {F:Nat->Prop} {P:Program} {f:FuncId} {fn:Func} {code:Code} {n:Nat} {I:Im} {W:World} {args:List AV} {vs:Array Value} {R:Ending->World->Prop} (N:Nat) (hf:P.funcs[f]?=some fn) (hb:fn.body=some code) (hn:fn.ntmps=N)
 (hN:Nat.ble args.length N=true) (hm:dR W I) (ha:c7 I args vs.toList) (h:∀a,St ⟨W,I,N,F⟩ I [] (js 0 args) a W->code.wpIn Fence.wide n P (bodyPost P fn R) a W):CallsIn Fence.wide n P f vs W R:=
 callsIn_of_wp hf hb trivial (h _ (St.enter hm ha (by have h1:=ha.length;have h2:=Nat.le_of_ble_eq_true hN;rw[Array.length_toList] at h1;omega)))
def Us {F:Nat->Prop} {P:Program} {f:FuncId} {fn:Func} {code:Code} {n:Nat} {I:Im} {W:World} {args:List AV} {vs:Array Value} {R:Ending->World->Prop} (N:Nat) (hf:P.funcs[f]?=some fn) (hb:fn.body=some code) (hn:fn.ntmps=N)
 (hN:Nat.ble args.length N=true) (hm:dR W I) (ha:c7 I args vs.toList) (h:∀a,St ⟨W,I,N,F⟩ I [] (js 0 args) a W->code.wpIn Fence.wide n P (bodyPostM Fence.wide n P fn R) a W):CallsIn Fence.wide n P f vs W R:=
 callsIn_of_wp_marks hf hb trivial (h _ (St.enter hm ha (by have h1:=ha.length;have h2:=Nat.le_of_ble_eq_true hN;rw[Array.length_toList] at h1;omega)))
def FP:∀{l:List (Nat×Value)} {t:Nat} {x:AV},Env.get t (l.map λp=>(p.1,AV.val p.2))=some x->∃v,(t,v)∈l/\x=.val v
 |[],t,x,e=>by simp[Env.get] at e
 |p::l,t,x,e=>by
  simp only[List.map_cons,Env.get] at e;cases hb:Nat.beq p.1 t with
  |true=>
   rw[hb] at e
   obtain rfl:p.1=t:=Nat.eq_of_beq_eq_true hb
   exact⟨p.2,by simp,(Option.some.inj e).symm⟩
  |false=>
   rw[hb] at e
   obtain⟨v,h1,h2⟩:=FP (l:=l) e
   exact⟨v,List.mem_cons_of_mem _ h1,h2⟩
def St.base {c:Ctx} {I:Im} {H:List Own} {Γ:Env} {a:Act} {w:World} (l:List (Nat×Value)) (U:St c I H Γ a w) (hl:l.map (λp=>Env.get p.1 Γ)=l.map (λp=>some (AV.val p.2)):=by rfl):St ⟨w,c.I,c.n,j2⟩ c.I [] (l.map λp=>(p.1,AV.val p.2)) a w:=by
 refine⟨eR.refl λb cs e=>U.step.c9 b cs (U.step.le b cs e),bQ.nil _ _ _,λt x e=>?_,U.size,U.defers⟩;obtain⟨v,hv,rfl⟩:=FP e;have:=List.map_inj_left.1 hl _ hv;exact U.env t _ this
def St.EM {G:Nat->Prop} {c:Ctx} {I:Im} {H:List Own} {Γ:Env} {a:Act} {w w':World} (l:List (Nat×Value)) (U:St c I H Γ a w) (hG:∀b cs,c.I b=some cs->¬G b) (k:Kept G w w') (hl:l.map (λp=>Env.get p.1 Γ)=l.map (λp=>some (AV.val p.2)):=by rfl):St ⟨w',c.I,c.n,j2⟩ c.I [] (l.map λp=>(p.1,AV.val p.2)) a w':=
 have h:=U.base l hl
 ⟨eR.refl (h.step.c9.kept hG k),bQ.nil _ _ _,h.env,h.size,h.defers⟩
def St.blank {c:Ctx} {I:Im} {H:List Own} {Γ:Env} {a:Act} {w:World} (w':World) (l:List (Nat×Value)) (U:St c I H Γ a w) (hl:l.map (λp=>Env.get p.1 Γ)=l.map (λp=>some (AV.val p.2)):=by rfl):St ⟨w',λ_=>none,c.n,j2⟩ (λ_=>none) [] (l.map λp=>(p.1,AV.val p.2)) a w':=
 have h:=U.base l hl
 ⟨eR.refl λb cs e=>(by cases e),bQ.nil _ _ _,λt x e=>(by obtain⟨v,_,rfl⟩:=FP e;exact h.env t _ e),h.size,h.defers⟩
def St.grown {c:Ctx} {I:Im} {H:List Own} {Γ:Env} {a:Act} {w:World} (U:St c I H Γ a w) (hF:c.F=j2):c.W.grownBy w none:=
 ⟨U.step.below.os,U.step.below.tape,U.step.below.output,U.step.below.size,λk hk _=>U.step.below.block k hk (by rw[hF];exactλh=>h)⟩
def Lm {I:Im}:∀{l:List AV} {cs:List Value},bs I l cs->bs I (cs.map AV.val) cs
 |[],[],_=>trivial
 |_::_,_::_,h=>⟨⟨rfl,h.1.2⟩,Lm h.2⟩
 |[],_::_,h=>h.elim
 |_::_,[],h=>h.elim
def Ln {I:Im}:∀{r cs:List Value},bs I (r.map AV.val) cs->cs=r
 |[],[],_=>rfl
 |x::r,y::cs,h=>by rw[Ln h.2,show y=x from h.1.1]
 |[],_::_,h=>h.elim
 |_::_,[],h=>h.elim
def Ut {I:Im} {r:List Value} {v:Value} (h:(AV.agg (r.map AV.val)).h I v):v=.agg r.toArray:=by
 obtain⟨cs,e,hc⟩:=h;rw[e,<-Ln hc]
def Lo {I:Im} {sz:Nat}:∀{l:List (List AV)} {cs:List Value},(∀r∈l,r.length=sz)->bs I l.flatten cs->
 ∃vs:List (List Value),vs.length=l.length/\vs.flatten=cs/\(∀r∈vs,r.length=sz)/\∀i,i<l.length->bs I (nth l i) (vs.getD i [])
 |[],[],_,_=>⟨[],rfl,rfl,by simp,λi h=>by simp at h⟩
 |[],_::_,_,h=>h.elim
 |r::l,cs,hr,h=>by
  have h1:bs I r (cs.take sz):=(h.take r.length).cast be (by rw[hr r be]);have h2:bs I l.flatten (cs.drop sz):=(h.drop r.length).cast be (by rw[hr r be]);obtain⟨vs,e1,e2,e3,e4⟩:=Lo (λx hx=>hr x (by simp[hx])) h2;refine⟨cs.take sz::vs,by simp[e1],by simp[e2],λx hx=>?_,λi hi=>?_⟩
  .rcases List.mem_cons.1 hx with rfl|hx
   .rw[h1.length];exact hr r be
   exact e3 x hx
  cases i with
  |zero=>exact h1
  |succ i=>exact e4 i (by simpa using hi)
def Uu {I:Im} {sz:Nat} {l:List (List AV)} {v:Value} (h:(AV.rows sz l).h I v):
 ∃vs:List (List Value),vs.length=l.length/\(∀r∈vs,r.length=sz)/\(AV.rows sz (vs.map (·.map AV.val))).h I v/\∀i,i<l.length->bs I (nth l i) (vs.getD i []):=by
 obtain⟨p,cap,e,h1,h2,h3,h4,h5⟩:=h;rcases h4 with rfl|⟨q,hq,U,cs,hI,hh⟩
 .exact⟨[],rfl,by simp,⟨p,cap,e,h1,h2,by simp,.inl rfl,h5⟩,λi hi=>by simp at hi⟩
 obtain⟨vs,e1,e2,e3,e4⟩:=Lo h3 hh;have e5:(vs.map (·.map AV.val)).flatten=vs.flatten.map AV.val:=(List.map_flatten ..).symm;refine⟨vs,e1,e3,⟨p,cap,by rw[List.length_map,e1];exact e,by rw[List.length_map,e1];exact h1,h2,λr hr=>?_,.inr ⟨q,hq,U,cs,hI,?_⟩,h5⟩,e4⟩
 .obtain⟨x,hx,rfl⟩:=List.mem_map.1 hr;rw[List.length_map];exact e3 x hx
 rw[e5,List.length_map,e2];refine(Lm hh).cast rfl ?_;rw[hh.length]
def St.oU {P:Program} {c:Ctx} {I:Im} {H:List Own} {Γ:Env} {a:Act} {w:World} {Q:Exit->Act->World->Prop} {ops:Array Oper} {rest:List Oper} {d:Nat} {op:Op} {ty:TypeId} {p:String} {af:Array Edge} {x y:AV} {v:Value} (t:Nat)
 (U:St c I H Γ a w) (hy:y.h c.I v) (ok:Ok P H ((t,y)::Γ) true ⟨some d,op,ty,p,af,none⟩ x) (k:∀{I' a' w'},St c I' H ((d,x)::Γ) a' w'->wpList P ops Q rest a' w') (ht:Env.get t Γ=some (.val v):=by rfl) (hd:Nat.blt d c.n=true:=by rfl):
 wpList P ops Q (⟨some d,op,ty,p,af,none⟩::rest) a w:=by
 unfold wpList;rw[if_pos (by simp[Region.wanted])];exact .inl (ok c.own I a w _ _ (U.vP ht (y.up _ _ _ U.step.le hy)).env U.step.c9 U.own rfl λv I' w' hx s=>k (U.put (by simpa using hd) hx s))
def St.re {c:Ctx} {I:Im} {H:List Own} {Γ:Env} {a:Act} {w:World} (U:St c I H Γ a w):St ⟨w,I,c.n,dS H⟩ I H Γ a w:=
 ⟨eR.refl U.step.c9,U.own.exact.weaken λb h=>.inr h,U.env,U.size,U.defers⟩
def St.un {c:Ctx} {I I2:Im} {H H2:List Own} {Γ Γ2:Env} {a a2:Act} {w w2:World} (U:St c I H Γ a w) (h:St ⟨w,I,c.n,dS H⟩ I2 H2 Γ2 a2 w2):St c I2 H2 Γ2 a2 w2:=by
 have eG:∀b,dS H b->c.own b:=λb k=>(let⟨o,ho,hb⟩:=rn.1 k;((U.own.all o ho).2 b hb).1);have ob:∀b,b<c.W.heap.size->¬c.F b->¬dS H b:=λb h1 h2 h3=>(eG b h3).elim (λh=>by omega) h2;have cJ:=U.step.below.size;refine⟨⟨Im.le_trans U.step.le h.step.le,λb hb hf=>(h.step.fS b (Nat.lt_of_lt_of_le hb cJ) (ob b hb hf)).trans (U.step.fS b hb hf),h.step.c9,
  ⟨h.step.below.os.trans U.step.below.os,h.step.below.tape.trans U.step.below.tape,h.step.below.output.trans U.step.below.output,Nat.le_trans cJ h.step.below.size,
   λk hk hf=>(h.step.below.block k (Nat.lt_of_lt_of_le hk cJ) (ob k hk hf)).trans (U.step.below.block k hk hf)⟩⟩,
  ⟨λo ho=>⟨(h.own.all o ho).1,λb hb=>⟨?_,((h.own.all o ho).2 b hb).2⟩⟩,h.own.apart⟩,h.env,h.size,h.defers⟩
 rcases((h.own.all o ho).2 b hb).1 with k|k
 .exact .inl (Nat.le_trans cJ k)
 exact eG b k
def boxes (H:List Own):Prop:=∀o∈H,∃b T l,o=Own.box b T l
def Lp {base:Nat->Prop} {I:Im} {w:World} {H:List Own} (h:bQ base I w H) (hb:boxes H) {b:Nat} (k:dS H b):∃o:Obj,w.heap[b]?=some o/\o.isCells=true:=by
 obtain⟨o,ho,e⟩:=rn.1 k;obtain⟨b',T,l,rfl⟩:=hb o ho;obtain rfl:b'=b:=e;obtain⟨⟨cs,h1,_⟩,_⟩:=h.all _ ho;exact⟨_,h1,rfl⟩
def St.keeps {I I2:Im} {H H2:List Own} {Γ2:Env} {a2:Act} {w w2:World} {n:Nat} {base:Nat->Prop} (h:St ⟨w,I,n,dS H⟩ I2 H2 Γ2 a2 w2) (ho:bQ base I w H) (hb:boxes H):KeepsOthers w w2:=
 ⟨h.step.below.size,λk o hk hc=>(h.step.below.block k (Array.getElem?_eq_some_iff.1 hk).1 λe=>by
  obtain⟨o',h1,h2⟩:=Lp ho hb e;rw[hk] at h1;cases h1;rw[hc] at h2;cases h2).trans hk⟩
def St.BQ {c:Ctx} {I:Im} {H:List Own} {Γ:Env} {a:Act} {w w':World} {row:Option Nat} (U:St c I H Γ a w) (hb:boxes H) (hg:w.grownBy w' row) (hr:∀r,row=some r->c.W.heap.size<=r/\∃o:Obj,w.heap[r]?=some o/\o.isCells=false):St c I H Γ a w':=by
 have p5:∀b,(∃o:Obj,w.heap[b]?=some o/\o.isCells=true)->w'.heap[b]?=w.heap[b]?:=λb ⟨o,h1,h2⟩=>grownBy_keeps_cells hg (λr e=>(hr r e).2) h1 h2;refine⟨⟨U.step.le,U.step.fS,U.step.c9.grown hg λr e=>(hr r e).2,⟨hg.os.trans U.step.below.os,hg.tape.trans U.step.below.tape,hg.output.trans U.step.below.output,Nat.le_trans U.step.below.size hg.size,
  λk hk hf=>(hg.block k (Nat.lt_of_lt_of_le hk U.step.below.size) λe=>by have:=(hr k e.symm).1;omega).trans (U.step.below.block k hk hf)⟩⟩,⟨λo ho=>?_,U.own.apart⟩,U.env,U.size,U.defers⟩
 obtain⟨h1,h2⟩:=U.own.all o ho;refine⟨o.iB I I w w' (Im.le_refl I) (λb e=>p5 b (Lp U.own hb (rn.2 ⟨o,ho,e⟩))) h1,λb e=>?_⟩;obtain⟨k1,k2,k3⟩:=h2 b e;exact⟨k1,k2,Nat.lt_of_lt_of_le k3 hg.size⟩
def St.back {c:Ctx} {I I2:Im} {H H2 H3:List Own} {Γ Γ2:Env} {a a2:Act} {w w2:World} (U:St c I H Γ a w) (h:St c I2 (H2++H3) Γ2 a2 w2) (hle:Im.le I I2):St c I2 H2 Γ a w2:=
 ⟨h.step,⟨λo ho=>h.own.all o (List.mem_append_left _ ho),(List.pairwise_append.1 h.own.apart).1⟩,U.env.up hle,U.size,U.defers⟩
def Uv {G:Nat->Prop} {n0:Nat} (hG:∀b,n0<=b->G b) (W:World) (l:Nat) (o':Obj) (h:n0<=l):Kept G W (W.putObj l o'):=by
 have hg:=grownBy_putObj' W l o';exact⟨hg.os,hg.tape,hg.output,hg.size,λk hk hf=>hg.block k hk λe=>hf (by cases e;exact hG l h)⟩
def get_mem:∀{Γ:Env} {t:Nat} {x:AV},Env.get t Γ=some x->(t,x)∈Γ
 |[],t,x,e=>by simp[Env.get] at e
 |p::r,t,x,e=>by
  simp only[Env.get] at e;cases hb:Nat.beq p.1 t with
  |true=>rw[hb] at e;obtain rfl:p.1=t:=Nat.eq_of_beq_eq_true hb
         obtain rfl:p.2=x:=Option.some.inj e
         exact List.mem_cons_self ..
  |false=>rw[hb] at e;exact List.mem_cons_of_mem _ (get_mem e)
def St.pick {c:Ctx} {I:Im} {H:List Own} {Γ:Env} {a:Act} {w:World} (Γ':Env) (U:St c I H Γ a w) (h:Γ'.map (λp=>Env.get p.1 Γ)=Γ'.map (λp=>some p.2):=by rfl):St c I H Γ' a w:=
 ⟨U.step,U.own,λt x e=>U.env t x (List.map_inj_left.1 h _ (get_mem e)),U.size,U.defers⟩
def St.leave {P:Program} {c:Ctx} {I:Im} {H:List Own} {Γ:Env} {a:Act} {w:World} {n D:Nat} {fn:Func} {rs:List ResultVar} {xs:List AV} {res:AV} (U:St c I H Γ a w) (hb:boxes H) (hD:c.W.heap.size<=D) (hK:w.heap[D]?=some (.deferred (some []))) (hF:c.F=j2)
 (hr:fn.results=rs.toArray) (h:aZ P H Γ rs xs) (e:ra xs=res):LeavesInM Fence.wide n P fn a.tmps (vH c.I c.W res) [{target:=.collected D,args:=#[]}] .returning w:=by
 subst e;have eW:=U.BQ hb (grownBy_putObj' w D (.deferred none)) (λr e=>by cases e;exact⟨hD,_,hK,rfl⟩);obtain⟨v,h1,h2⟩:=eW.yx hr h;refine⟨by simp,.inl ⟨_,_,rfl,run_takeDeferred hK,v,h1,I,?_,h2⟩⟩;have:=eW.step;rw[hF] at this;exact this.all
def Kept.mono {F G:Nat->Prop} {A B:World} (h:Kept F A B) (k:∀b,F b->G b):Kept G A B:=⟨h.os,h.tape,h.output,h.size,λi hi hf=>h.block i hi λe=>hf (k i e)⟩
def St.Lq {c:Ctx} {I I2:Im} {H H2:List Own} {Γ Γ2:Env} {a a2:Act} {w w2:World} {n:Nat} (U:St c I H Γ a w) (h:St ⟨w,I,n,dS H⟩ I2 H2 Γ2 a2 w2):Kept c.own w w2:=
 h.step.below.mono λb k=>(let⟨o,ho,hb⟩:=rn.1 k;((U.own.all o ho).2 b hb).1)
def St.wI {c:Ctx} {I:Im} {H H':List Own} {Γ:Env} {a:Act} {w:World} (U:St c I H Γ a w) (e:H=H'):St c I H' Γ a w:=e▸U
end Go.Proofs.YtldbakcpcfdlaaaGreat
set_option maxRecDepth 100000
set_option maxHeartbeats 4000000
namespace Go.Proofs.YtldbakcpcfdlaaaGreat
open Go Go.RowKit Tryz
attribute [local irreducible] wpList Code.wp Ok
instance agW:c4 prog 76 true 11 88 (.agg #[.int .i64 0,.int .i64 0,.int .i64 0,.int .i64 0,.int .i64 0,.int .i64 0,.int .i64 0,.int .i64 0,.int .i64 0,.int .i64 0,.int .i64 0]):=⟨by kernel_rfl,by kernel_rfl⟩
instance agX:fP prog 79 (.slice 76):=⟨by kernel_rfl⟩
instance agY:bn prog 76 0 0 1:=⟨by unfold bk;kernel_rfl⟩
instance agZ:bn prog 76 1 1 1:=⟨by unfold bk;kernel_rfl⟩
instance ag0:bn prog 76 2 2 1:=⟨by unfold bk;kernel_rfl⟩
instance ag1:bn prog 76 3 3 1:=⟨by unfold bk;kernel_rfl⟩
instance ag2:bn prog 76 4 4 1:=⟨by unfold bk;kernel_rfl⟩
instance ag3:bn prog 76 5 5 1:=⟨by unfold bk;kernel_rfl⟩
instance ag4:bn prog 76 6 6 1:=⟨by unfold bk;kernel_rfl⟩
instance ag5:bn prog 76 7 7 1:=⟨by unfold bk;kernel_rfl⟩
instance ag6:bn prog 76 8 8 1:=⟨by unfold bk;kernel_rfl⟩
instance ag7:bn prog 76 9 9 1:=⟨by unfold bk;kernel_rfl⟩
instance ag8:bn prog 76 10 10 1:=⟨by unfold bk;kernel_rfl⟩
end Go.Proofs.YtldbakcpcfdlaaaGreat
