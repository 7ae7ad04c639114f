/- Part 1: rules of the proofs. -/
import Derived.Orders
import Derived.Test.YtldbakcpcfdlaaaGreatU00
set_option linter.all false
namespace Go.Proofs.YtldbakcpcfdlaaaGreat
open Go Go.RowKit
def Env.only (ts:List Nat) (Γ:Env):Env:=Γ.filter λp=>ts.contains p.1
def Env.p6 {ts:List Nat} {t:Nat} {x:AV}:∀{Γ:Env},Env.get t (Env.only ts Γ)=some x->Env.get t Γ=some x/\ts.contains t=true
 |[],h=>by simp[Env.only,Env.get] at h
 |p::r,h=>by
  have ih:=λk=>Env.p6 (ts:=ts) (t:=t) (x:=x) (Γ:=r) k;unfold Env.only at h ih;rw[List.filter_cons] at h;cases hm:ts.contains p.1 with
  |false=>
   rw[hm] at h
   have:=ih (by simpa using h)
   refine⟨?_,this.2⟩
   simp only[Env.get]
   cases hb:Nat.beq p.1 t with
   |true=>
    obtain rfl:p.1=t:=Nat.eq_of_beq_eq_true hb
    rw[this.2] at hm;cases hm
   |false=>simpa using this.1
  |true=>
   rw[hm] at h
   simp only[if_true,Env.get] at h⊢
   cases hb:Nat.beq p.1 t with
   |true=>
    rw[hb] at h
    obtain rfl:p.1=t:=Nat.eq_of_beq_eq_true hb
    exact⟨h,hm⟩
   |false=>
    rw[hb] at h
    exact ih h
def gA (P:Program) (H:List Own) (ops:Array Oper) (Γ:Env) (o:Oper) (x:AV):Prop:=
 ∀(base:Nat->Prop) (I:Im) (a:Act) (w:World) (K:Act->World->Prop) (Q:Exit->Act->World->Prop),br I a Γ->cx w I->aO base I w H->
  (∀v I' w',x.h I' v->Step I w I' w'->K (a.put o.dst v) w')->
  if Region.wanted o (yielded ops a.tmps) then o.wp P a w K Q else K (a.put o.dst undef) w
section
variable {P:Program} {H:List Own} {Γ:Env}
def gA.of {ops:Array Oper} {o:Oper} {x:AV} (hg:o.guard=none) (ok:Ok P H Γ true o x):gA P H ops Γ o x:=λbase I a w K Q he hm hw k=>by
 rw[if_pos (by simp[Region.wanted,hg])];exact ok base I a w K Q he hm hw rfl k
def gA.n1 {ops:Array Oper} {o:Oper} {x:AV} {G:Bool} (hg:di ops Γ o G) (ok:Ok P H Γ G o x):gA P H ops Γ o (.cond G x):=λbase I a w K Q he hm hw k=>by
 rw[hg I a he];cases G with
 |true=>
  rw[if_pos rfl]
  exact ok base I a w K Q he hm hw rfl λv I' w' hx s=>k v I' w' ⟨λ_=>hx,λh=>(by cases h)⟩ s
 |false=>
  rw[if_neg aJ]
  exact k undef I w ⟨λh=>(by cases h),λ_=>rfl⟩ (Step.refl hm)
def iP (P:Program) (H:List Own) (ops:Array Oper):Env->List Oper->List AV->Prop
 |_,[],[]=>True
 |Γ,o::os,x::xs=>gA P H ops (Γ.only (o.looksAt ops)) o x/\iP P H ops ((o.dst.getD 0,x)::Γ) os xs
 |_,_,_=>False
def iP.n {ops:Array Oper}:iP P H ops Γ [] []:=trivial
def iP.c {ops:Array Oper} {o:Oper} {os:List Oper} {x:AV} {xs:List AV} (h:gA P H ops (Γ.only (o.looksAt ops)) o x) (k:iP P H ops ((o.dst.getD 0,x)::Γ) os xs):iP P H ops Γ (o::os) (x::xs):=⟨h,k⟩
def hY (Γ:Env):List Oper->List AV->Env
 |o::os,x::xs=>hY ((o.dst.getD 0,x)::Γ) os xs
 |_,_=>Γ
end
def mz (s:List Nat) (x:Nat):List Nat:=if s.contains x then s else x::s
def tN {s:List Nat} {x k:Nat} (h:k∈mz s x):k=x\/k∈s:=by
 unfold mz at h;split at h
 .exact .inr h
 exact List.mem_cons.1 h
def tO (s t:List Nat):List Nat:=t.foldl mz s
def tP {k:Nat}:∀{t s:List Nat},k∈tO s t->k∈s\/k∈t
 |[],s,h=>.inl h
 |x::t,s,h=>by
  rcases tP (t:=t) (s:=mz s x) h with h|h
  .rcases tN h with rfl|h
   .exact .inr aJ
   exact .inl h
  exact .inr (by simp[h])
def jv (acc:List (List Nat)):List Edge->List Nat
 |[]=>[]
 |e::r=>if Region.binds .any e then tO (mz (jv acc r) e.on) (acc.getD e.on []) else jv acc r
def dw:List (List Nat)->List Oper->List (List Nat)
 |acc,[]=>acc
 |acc,o::os=>dw (acc++[jv acc o.after.toList]) os
def tQ {S:Nat->Bool} {acc:List (List Nat)} (tT:∀i k,k∈acc.getD i []->S i=true->S k=true):∀{es:List Edge},(∀e∈es,Region.binds .any e=true->S e.on=true)->∀k∈jv acc es,S k=true
 |[],_,k,h=>by simp[jv] at h
 |e::r,he,k,h=>by
  have ih:=tQ tT (es:=r) (λe' h'=>he e' (by simp[h']));unfold jv at h;split at h
  .rename_i hb;have tU:=he e aJ hb;rcases tP h with h|h
   .rcases tN h with rfl|h
    .exact tU
    exact ih k h
   exact tT _ _ h tU
  exact ih k h
def n2 {S:Nat->Bool}:∀(os:List Oper) (acc:List (List Nat)),(∀i k,k∈acc.getD i []->S i=true->S k=true)->
 (∀i o,os[i]?=some o->S (acc.length+i)=true->∀e∈o.after.toList,Region.binds .any e=true->S e.on=true)->
 ∀i k,k∈(dw acc os).getD i []->S i=true->S k=true
 |[],acc,h,_=>h
 |o::os,acc,h,U=>by
  unfold dw;refine n2 os _ (λi k hk hi=>?_) (λi o' ho hi=>?_)
  .by_cases bH:i<acc.length
   .refine h i k ?_ hi;simpa[List.getD,List.getElem?_append_left bH] using hk
   by_cases heq:i=acc.length
   .subst heq;have cX:k∈jv acc o.after.toList:=by simpa[List.getD] using hk
    by_cases hS:S acc.length=true
    .exact tQ h (U 0 o rfl (by simpa using hS)) k cX
    exact absurd hi hS
   have:(acc++[jv acc o.after.toList])[i]?=none:=by simp;omega
   rw[List.getD_eq_getElem?_getD,this] at hk;simp at hk
  have:=U (i+1) o' (by simpa using ho);simp only[List.length_append,List.length_cons,List.length_nil] at hi;exact this (by rw[<-hi];congr 1;omega)
def slotsOf (ops:Array Oper) (o:Oper):List Nat:=o.dst.toList++o.looksAt ops
abbrev fY:=Nat×Nat×AV
def cg:Nat->List Oper->List AV->List fY
 |k,o::os,x::xs=>(k,o.dst.getD 0,x)::cg (k+1) os xs
 |_,_,_=>[]
def ck (l:List fY):Env:=l.map (·.2)
def mA {t:Nat} {Γ:Env} {p q:fY->Bool}:∀(L:List fY),(∀e∈L,e.2.1=t->p e=q e)->Env.get t (ck (L.filter p)++Γ)=Env.get t (ck (L.filter q)++Γ)
 |[],_=>rfl
 |e::L,h=>by
  have ih:=mA (t:=t) (Γ:=Γ) (p:=p) (q:=q) L (λe' h'=>h e' (by simp[h']));by_cases ht:e.2.1=t
  .have:=h e aJ ht;cases hp:p e
   .have hq:q e=false:=by rw[<-this];exact hp
    simpa[List.filter_cons,hp,hq] using ih
   have hq:q e=true:=by rw[<-this];exact hp
   simp[hp,hq,ck,Env.get,ht]
  have hb:Nat.beq e.2.1 t=false:=by
   cases hb:Nat.beq e.2.1 t with
   |false=>rfl
   |true=>exact absurd (Nat.eq_of_beq_eq_true hb) ht
  have key:∀(r:Bool->List fY),True:=λ_=>trivial;cases hp:p e<;>cases hq:q e<;>simp[hp,hq,ck,Env.get,hb]<;>simpa[ck] using ih
def p7 {t i:Nat} {x:AV} {Γ:Env} {p:fY->Bool}:∀(L:List fY),L.Pairwise (λe f=>f.1<e.1)->(i,t,x)∈L->p (i,t,x)=true->(∀e∈L,p e=true->e.2.1=t->e.1<=i)->
 Env.get t (ck (L.filter p)++Γ)=some x
 |[],_,h,_,_=>by simp at h
 |e::L,hL,hm,hp,hle=>by
  rcases List.mem_cons.1 hm with rfl|dL
  .simp[hp,ck,Env.get]
  have bH:i<e.1:=(List.pairwise_cons.1 hL).1 _ dL;have ih:=p7 (Γ:=Γ) L (List.pairwise_cons.1 hL).2 dL hp (λe' h'=>hle e' (by simp[h']));cases p8:p e
  .simpa[List.filter_cons,p8] using ih
  have aY:e.2.1≠t:=λht=>by have:=hle e aJ p8 ht;omega
  have hb:Nat.beq e.2.1 t=false:=by
   cases hb:Nat.beq e.2.1 t with
   |false=>rfl
   |true=>exact absurd (Nat.eq_of_beq_eq_true hb) aY
  simpa[List.filter_cons,p8,ck,Env.get,hb] using ih
def tV {e:fY}:∀{k:Nat} {os:List Oper} {xs:List AV},e∈cg k os xs->∃i o,os[i]?=some o/\xs[i]?=some e.2.2/\e.1=k+i/\e.2.1=o.dst.getD 0
 |k,[],_,h=>by simp[cg] at h
 |k,o::os,[],h=>by simp[cg] at h
 |k,o::os,x::xs,h=>by
  rcases List.mem_cons.1 h with rfl|h
  .exact⟨0,o,rfl,rfl,rfl,rfl⟩
  obtain⟨i,o',h1,h2,h3,h4⟩:=tV h;exact⟨i+1,o',by simpa using h1,by simpa using h2,by omega,h4⟩
def zX {i:Nat} {o:Oper} {x:AV}:∀{k:Nat} {os:List Oper} {xs:List AV},os[i]?=some o->xs[i]?=some x->(k+i,o.dst.getD 0,x)∈cg k os xs:=by
 induction i with
 |zero=>intro k os xs h1 h2;cases os<;>cases xs<;>simp at h1 h2;subst h1 h2;simp[cg]
 |succ i ih=>
  intro k os xs h1 h2
  cases os<;>cases xs<;>simp at h1 h2
  have:=ih (k:=k+1) h1 h2
  simp only[cg,List.mem_cons]
  exact .inr (by rw[show k+(i+1)=k+1+i from by omega];exact this)
def n3:∀(k:Nat) (os:List Oper) (xs:List AV),(cg k os xs).Pairwise (λe f=>e.1<f.1)/\∀e∈cg k os xs,k<=e.1
 |k,[],_=>by simp[cg]
 |k,o::os,[]=>by simp[cg]
 |k,o::os,x::xs=>by
  have ih:=n3 (k+1) os xs;refine⟨List.pairwise_cons.2 ⟨λe he=>by have:=ih.2 e he;simp;omega,ih.1⟩,λe he=>?_⟩;rcases List.mem_cons.1 he with rfl|he
  .simp
  have:=ih.2 e he;omega
def iP.at {P:Program} {H:List Own} {ops:Array Oper} {Γ0:Env}:∀(os:List Oper) (xs:List AV) (k:Nat) (done:List fY),iP P H ops (ck done++Γ0) os xs->(∀e∈done,e.1<k)->
 os.length=xs.length/\∀i o x,os[i]?=some o->xs[i]?=some x->gA P H ops ((ck (((cg k os xs).reverse++done).filter λe=>decide (e.1<k+i))++Γ0).only (o.looksAt ops)) o x
 |[],[],_,_,_,_=>⟨rfl,λi o x h=>by simp at h⟩
 |o::os,x::xs,k,done,h,hd=>by
  obtain⟨h1,h2⟩:=h;have ih:=iP.at os xs (k+1) ((k,o.dst.getD 0,x)::done) h2 (λe he=>by
   rcases List.mem_cons.1 he with rfl|he
   .simp
   have:=hd e he;omega)
  refine⟨by simp[ih.1],λi o' x' ho hx=>?_⟩;have mB:(cg k (o::os) (x::xs)).reverse++done=(cg (k+1) os xs).reverse++((k,o.dst.getD 0,x)::done):=by simp[cg]
  rw[mB];cases i with
  |zero=>
   simp at ho hx;subst ho hx
   have hf:((cg (k+1) os xs).reverse++((k,o.dst.getD 0,x)::done)).filter (λe=>decide (e.1<k+0))=done:=by
    rw[List.filter_append];have e1:(cg (k+1) os xs).reverse.filter (λe=>decide (e.1<k+0))=[]:=by
     rw[List.filter_eq_nil_iff];intro e he;have:=(n3 (k+1) os xs).2 e (List.mem_reverse.1 he);simp;omega
    rw[e1,List.filter_cons];simp only[Nat.add_zero,Nat.lt_irrefl,decide_false,Bool.false_eq_true,if_false,List.nil_append];rw[List.filter_eq_self];intro e he;simpa using hd e he
   rw[hf];exact h1
  |succ i=>
   have:=ih.2 i o' x' (by simpa using ho) (by simpa using hx)
   rw[show k+(i+1)=k+1+i from by omega]
   exact this
 |[],_::_,_,_,h,_=>h.elim
 |_::_,[],_,_,h,_=>h.elim
def tW:∀(os:List Oper) (xs:List AV) (k:Nat) (Γ:Env),hY Γ os xs=ck (cg k os xs).reverse++Γ
 |[],_,_,_=>by simp[hY,cg,ck]
 |_::_,[],_,_=>by simp[hY,cg,ck]
 |o::os,x::xs,k,Γ=>by
  rw[hY,tW os xs (k+1)];simp[cg,ck]
section
variable {P:Program} {c:Ctx} {I:Im} {H:List Own} {Γ:Env} {a:Act} {w:World} {Q:Exit->Act->World->Prop}
def filter_lt {α:Type} {p q:α->Bool} {i:α}:∀{l:List α},i∈l->p i=true->q i=false->(∀j,q j=true->p j=true)->(l.filter q).length<(l.filter p).length
 |[],h,_,_,_=>by simp at h
 |x::l,h,hp,hq,qc=>by
  have hle:∀l:List α,(l.filter q).length<=(l.filter p).length:=λl=>by
   induction l with
   |nil=>simp
   |cons y l ih=>
    cases hy:q y
    .cases qd:p y<;>simp[hy,qd]<;>omega
    simp[hy,qc y hy];omega
  rcases List.mem_cons.1 h with rfl|h
  .have:=hle l;simp[hp,hq];omega
  have ih:=filter_lt h hp hq qc;cases hy:q x
  .cases qd:p x<;>simp[hy,qd]<;>omega
  simp[hy,qc x hy];omega
def n4 {listed:Array Bool} {i j:Nat} (hi:i<listed.size) (v:Bool):(listed.setIfInBounds i true).getD j v=if j=i then true else listed.getD j v:=by
 by_cases h:j=i
 .subst h;simp[hi]
 rw[if_neg h,Array.getD_eq_getD_getElem?,Array.getElem?_setIfInBounds_ne (λe=>h e.symm),<-Array.getD_eq_getD_getElem?]
end
def Own.gone:Own:=⟨λ_=>False,λ_ _=>True,λ_ _ _ _ _ _ _=>trivial⟩
section
variable {base:Nat->Prop} {I:Im} {w:World} {H:List Own}
def aO.push (h:aO base I w H) (hb:base w.heap.size) {o:Obj} {x:Own} (dU:∀b,x.bP b->b=w.heap.size) (hm:cx w I) (ok:x.ok I (w.alloc o)):aO base I (w.alloc o) (H++[x]):=by
 have h':=h.step (Step.alloc hm o);refine⟨λy hy=>?_,?_⟩
 .rcases List.mem_append.1 hy with hy|hy
  .exact h'.all y hy
  obtain rfl:y=x:=by simpa using hy
  refine⟨ok,λb e=>?_⟩;obtain rfl:=dU b e;exact⟨hb,hm.none (Nat.le_refl _),by simp⟩
 rw[List.pairwise_append];refine⟨h'.apart,by simp,λy hy z hz b e e'=>?_⟩;obtain rfl:z=x:=by simpa using hz
 have h1:=((h.all y hy).2 b e).2.2;have h2:=dU b e';omega
def eE.symm {o p:Own} (h:eE o p):eE p o:=λb e e'=>h b e' e
def jw {H:List Own} {i k:Nat} {x y:Own} (h:H.Pairwise eE) (aY:i≠k) (hi:H[i]?=some y) (hk:H[k]?=some x):eE y x:=by
 obtain⟨h1,rfl⟩:=List.getElem?_eq_some_iff.1 hi;obtain⟨h2,rfl⟩:=List.getElem?_eq_some_iff.1 hk;rw[List.pairwise_iff_getElem] at h;rcases Nat.lt_or_ge i k with hl|hl
 .exact h i k h1 h2 hl
 exact(h k i h2 h1 om).symm
def fB {x:Own} {k:Nat} (hd:H.Pairwise eE) (hx:∀b,x.bP b->(∃y,H[k]?=some y/\y.bP b)\/∀y∈H,¬y.bP b):(H.set k x).Pairwise eE:=by
 rw[List.pairwise_iff_getElem];have key:∀(i:Nat) (hi:i<H.length),i≠k->eE H[i] x:=λi hi aY b e e'=>by
  rcases hx b e' with⟨y,h1,h2⟩|h
  .exact jw hd aY (List.getElem?_eq_getElem hi) h1 b e h2
  exact h _ (List.getElem_mem hi) e
 intro i j hi hj fL;rw[List.length_set] at hi hj;rw[List.getElem_set,List.getElem_set];split
 .split
  .omega
  exact(key j hj om).symm
 split
 .exact key i hi om
 exact jw hd (by omega:i≠j) (List.getElem?_eq_getElem hi) (List.getElem?_eq_getElem hj)
def aO.write {w':World} {k:Nat} {x x':Own} (h:aO base I w H) (hk:H[k]?=some x) (dU:x'.bP=x.bP) (zY:w'.heap.size=w.heap.size)
 (hw:∀b,¬x.bP b->w'.heap[b]?=w.heap[b]?) (ok:x'.ok I w'):aO base I w' (H.set k x'):=by
 have ei:k<H.length:=(List.getElem?_eq_some_iff.1 hk).1;refine⟨λy hy=>?_,fB h.apart λb hb=>.inl ⟨x,hk,by rw[<-dU];exact hb⟩⟩;rw[List.mem_iff_getElem?] at hy;obtain⟨i,hi⟩:=hy;by_cases gP:i=k
 .subst gP;rw[List.getElem?_set_self ei] at hi;cases hi;obtain⟨_,h2⟩:=h.all x (List.mem_of_getElem? hk);exact⟨ok,λb hb=>by obtain⟨a1,a2,a3⟩:=h2 b (by rw[<-dU];exact hb);exact⟨a1,a2,by omega⟩⟩
 rw[List.getElem?_set_ne (λe=>gP e.symm)] at hi;obtain⟨h1,h2⟩:=h.all y (List.mem_of_getElem? hi);exact⟨y.fy I I w w' (Im.le_refl I) (λb hb=>hw b λe=>jw h.apart gP hi hk b hb e) h1,λb hb=>by obtain⟨a1,a2,a3⟩:=h2 b hb;exact⟨a1,a2,by omega⟩⟩
def cE.write {c:Ctx} {w':World} {b:Nat} (U:cE c.F c.I c.W I w) (hb:c.own b) (hI:I b=none) (zY:w'.heap.size=w.heap.size)
 (zZ:w'.os=w.os) (z0:w'.tape=w.tape) (ly:w'.output=w.output) (hw:∀k,k≠b->w'.heap[k]?=w.heap[k]?):cE c.F c.I c.W I w':=
 ⟨U.le,U.cR,λk cs e=>by
  obtain⟨T,fr,hh⟩:=U.bO k cs e;exact⟨T,fr,by rw[hw k (λh=>by subst h;rw[hI] at e;cases e)];exact hh⟩,
  ⟨zZ.trans U.below.os,z0.trans U.below.tape,ly.trans U.below.output,by have:=U.below.size;omega,λk hk hf=>(hw k (λe=>by subst e;rcases hb with h|h;exact absurd h om;exact hf h)).trans (U.below.block k hk hf)⟩⟩
end
section
variable {P:Program} {c:Ctx} {I:Im} {H:List Own} {Γ:Env} {a:Act} {w:World} {Q:Exit->Act->World->Prop} {ops:Array Oper} {rest:List Oper}
variable {d:Nat} {y z:Operand} {ty T T' E:TypeId} {p:String} {af:Array Edge} {g:Bool} {gd:Option (Nat×Bool)} {n m:Nat} {zv:Value}
def St.hZ {I':Im} {w':World} {H':List Own} (U:St c I H Γ a w) (aX:cE c.F c.I c.W I' w') (hle:Im.le I I') (ho:aO c.own I' w' H') {d:Nat} (hd:Nat.blt d c.n=true) {x:AV} {v:Value} (hx:x.h I' v):
 St c I' H' ((d,x)::Γ) (a.put (some d) v) w':=
 ⟨aX,ho,(U.env.up hle).put (by rw[U.size];simpa using hd) hx,by simp[Act.put,U.size],U.defers⟩
def mC {w:World} {T:TypeId} {v:Value}:(newVar T v).run P w=.ok ⟨w.heap.size,0,none⟩ (w.alloc (.cells v.cells T)):=by
 rfl
def z1 {d:Option Tmp} {l:List AV} (h:At Γ g y (.agg l)):Ok P H Γ g ⟨d,.box T y,ty,p,af,gd⟩ (.ptr l):=
 λbase I a w K Q he hm hw hg k=>by
  obtain⟨cs,e,hl⟩:=h I a he hg;unfold Oper.wp;simp only[execOp,Instr.box,e,Sem.run_bind,mC,Result.andThen_ok,Sem.run_pure,Value.cells,Oper.upon_value];refine k _ _ _ ⟨⟨w.heap.size,0,none⟩,rfl,rfl,cs,by simp[Im.add],?_⟩ (Step.mu hm cs T (0,0));have:=(hl.up (Im.mr (cs:=cs) (hm.none (Nat.le_refl _))));refine this.cast rfl ?_;have hlen:=this.length;simp only[List.drop_zero];rw[List.take_of_length_le om]
def n5 {v:Value} (h:v.oneCell'=true):v.cells=#[v]:=by
 cases v<;>simp_all[Value.cells,Value.oneCell']
def AV.One (x:AV):Prop:=∀I v,x.h I v->v.oneCell'=true
def bA {v:Value} (h:v.oneCell'=true):(AV.val v).One:=λ_ _ e=>by rw[show _=v from e];exact h
def bE {s:Nat} {l:List (List AV)}:(AV.rows s l).One:=λ_ _ ⟨_,_,e,_⟩=>by rw[e];rfl
def bF {l:List AV}:(AV.ptr l).One:=λ_ _ ⟨_,e,_⟩=>by rw[e];rfl
def tX {d:Option Tmp} {x:AV} (h:At Γ g y x) (hx:x.One):Ok P H Γ g ⟨d,.box T y,ty,p,af,gd⟩ (.ptr [x]):=
 λbase I a w K Q he hm hw hg k=>by
  have e:=h I a he hg;unfold Oper.wp;simp only[execOp,Instr.box,Sem.run_bind,mC,Result.andThen_ok,Sem.run_pure,n5 (hx _ _ e),Oper.upon_value];refine k _ _ _ ⟨⟨w.heap.size,0,none⟩,rfl,rfl,#[a.eval y],by simp[Im.add],?_⟩ (Step.mu hm _ T (0,0));simp only[List.drop_zero,List.length_cons,List.length_nil];exact⟨⟨x.up _ _ _ (Im.mr (hm.none (Nat.le_refl _))) e,hx _ _ e⟩,trivial⟩
def St.alloc {l:List AV} {ag:Bool} (U:St c I H Γ a w) (hd:Nat.blt d c.n=true) (hT:Ty P T ag n m zv) (hz:∀I,aC I l zv.cells.toList)
 (k:∀b I a' w',St c I (H++[Own.box b T l]) ((d,.val (.pointer (some ⟨b,0,none⟩)))::Γ) a' w'->wpList P ops Q rest a' w'):
 wpList P ops Q (⟨some d,.alloc T,ty,p,af,none⟩::rest) a w:=by
 unfold wpList;rw[if_pos (by simp[Region.wanted])];left;unfold Oper.wp;have mD:(zeroValue T).run P w=.ok zv w:=hT.zero;simp only[execOp,Instr.alloc,Sem.run_bind,mD,Result.andThen_ok,mC,Sem.run_pure,Oper.upon_value];refine k w.heap.size I _ _ (U.hZ (U.step.trans (Step.alloc U.step.bO _)) (Im.le_refl _) (U.own.push (x:=Own.box w.heap.size T l) U.room (λ_ e=>e.symm) U.step.bO ⟨_,j9 w _,hz I⟩) hd rfl)
def St.box {l:List AV} (U:St c I H Γ a w) (hd:Nat.blt d c.n=true) (h:At Γ true y (.agg l))
 (k:∀b I a' w',St c I (H++[Own.box b T l]) ((d,.val (.pointer (some ⟨b,0,none⟩)))::Γ) a' w'->wpList P ops Q rest a' w'):
 wpList P ops Q (⟨some d,.box T y,ty,p,af,none⟩::rest) a w:=by
 unfold wpList;rw[if_pos (by simp[Region.wanted])];left;obtain⟨cs,e,hl⟩:=h I a U.env rfl;unfold Oper.wp;simp only[execOp,Instr.box,e,Sem.run_bind,mC,Result.andThen_ok,Sem.run_pure,Value.cells,Oper.upon_value];exact k w.heap.size I _ _ (U.hZ (U.step.trans (Step.alloc U.step.bO _)) (Im.le_refl _) (U.own.push (x:=Own.box w.heap.size T l) U.room (λ_ e=>e.symm) U.step.bO ⟨_,j9 w _,hl⟩) hd rfl)
def cm {α:Type} (l:List α) (q:Nat) (x:List α):List α:=l.take q++x++l.drop (q+x.length)
def tY {w:World} {ag:Bool} (hT:Ty P T ag n m zv) {b q:Nat} {cs:Array Value} {v:Value} (hb:w.heap[b]?=some (.cells cs T' (0,0))) (hv:v.cells.size=n) (hq:q+n<=cs.size) (h1:∀u∈v.cells.toList,u.oneCell'=true):
 (storeVar T ⟨b,q,none⟩ v).run P w=.ok () (w.setRow b (cm cs.toList q v.cells.toList).toArray):=by
 have bf:(sizeOf T).run P w=.ok n w:=hT.size;have aX:=run_storeCells_at P b q T' v.cells.toList 0 cs w hb dF h1;simp only[Nat.add_zero] at aX;simp only[storeVar,Sem.run_bind,bf,Result.andThen_ok,hv,ne_eq,not_true_eq_false,if_false,aX];simp[cm]
def mE {w w':World} {v:Value} {b q:Nat} {K:Act->World->Prop} {Q:Exit->Act->World->Prop} (hy:a.eval y=.pointer (some ⟨b,q,none⟩)) (hz:a.eval z=v)
 (hr:(storeVar T ⟨b,q,none⟩ v).run P w=.ok () w') (k:K a w'):(⟨none,.store T y z,ty,p,af,gd⟩:Oper).wp P a w K Q:=by
 unfold Oper.wp;simp only[execOp,Instr.storeAt,hy,hz,Instr.sureAddr,Sem.run_bind,Sem.run_pure,Result.andThen_ok,hr,Oper.upon_skip];exact k
def St.written {H':List Own} {w':World} (U:St c I H Γ a w) (aX:cE c.F c.I c.W I w') (ho:aO c.own I w' H'):St c I H' Γ a w':=
 ⟨aX,ho,U.env,U.size,U.defers⟩
def St.qe {ag:Bool} {b q:Nat} {l lx:List AV} {v:Value} (k:Nat) (U:St c I H Γ a w) (hT:Ty P T ag n m zv) (hk:H[k]?=some (Own.box b T' l)) (hv:aC I lx v.cells.toList) (hn:lx.length=n) (hq:Nat.ble (q+n) l.length=true):
 ∃w',(storeVar T ⟨b,q,none⟩ v).run P w=.ok () w'/\St c I (H.set k (Own.box b T' (cm l q lx))) Γ a w':=by
 obtain⟨⟨cs,hb,hl⟩,h2⟩:=U.own.all _ (List.mem_of_getElem? hk);obtain⟨kb,iQ,qf⟩:=h2 b rfl;have hlen:=hl.length;have jx:=hv.length;have Hq:q+n<=l.length:=Nat.le_of_ble_eq_true hq;have bf:cs.size=l.length:=by simpa using hlen
 have hr:=tY (P:=P) hT (q:=q) (v:=v) hb (by simp at jx;omega) om hv.one;refine⟨_,hr,U.written (U.step.write kb iQ aJ rfl rfl rfl λk' cX=>setRow_other w b k' _ cX) (U.own.write hk rfl aJ (λk' cX=>setRow_other w b k' _ λe=>cX (by rw[e];rfl)) ⟨_,setRow_heap w b cs _ T' _ hb,?_⟩)⟩;have mF:lx.length=v.cells.toList.length:=jx.symm;simp only[cm,mF];exact((hl.take q).append hv).append (hl.drop (q+v.cells.toList.length))
end
section
variable {P:Program} {c:Ctx} {I:Im} {H:List Own} {Γ:Env} {a:Act} {w:World} {Q:Exit->Act->World->Prop} {ops:Array Oper} {rest:List Oper}
variable {d:Nat} {y z:Operand} {ty T T' E:TypeId} {p:String} {af:Array Edge} {g:Bool} {gd:Option (Nat×Bool)} {n m:Nat} {zv:Value}
def eN {o:Oper} (hg:o.guard=none) (h:o.wp P a w (wpList P ops Q rest) Q):wpList P ops Q (o::rest) a w:=by
 unfold wpList;rw[if_pos (by simp[Region.wanted,hg])];exact .inl h
def tZ {α:Type} {l:List α} {q:Nat} {x:α} (h:q<l.length):cm l q [x]=l.set q x:=by
 rw[List.set_eq_take_append_cons_drop,if_pos h];simp[cm]
def St.ua {b q:Nat} {l:List AV} {x:AV} (k:Nat) (U:St c I H Γ a w) (hT:Ty P T false 1 m zv) (hy:At Γ true y (.val (.pointer (some ⟨b,q,none⟩)))) (hz:At Γ true z x) (hx:x.One)
 (hk:H[k]?=some (Own.box b T' l)) (hq:Nat.ble (q+1) l.length=true)
 (kk:∀a' w',St c I (H.set k (Own.box b T' (l.set q x))) Γ a' w'->wpList P ops Q rest a' w'):
 wpList P ops Q (⟨none,.store T y z,ty,p,af,none⟩::rest) a w:=by
 have hv:=hz I a U.env rfl;have hc:=n5 (hx _ _ hv);obtain⟨w',hr,bj⟩:=U.qe (q:=q) (lx:=[x]) (v:=a.eval z) k hT hk (by rw[hc];exact⟨⟨hv,hx _ _ hv⟩,trivial⟩) rfl hq;rw[tZ (Nat.le_of_ble_eq_true hq)] at bj;exact eN rfl (mE (hy I a U.env rfl) rfl hr (kk _ _ bj))
def St.lz {b q:Nat} {l lx:List AV} (k:Nat) (U:St c I H Γ a w) (hT:Ty P T true n m zv) (hy:At Γ true y (.val (.pointer (some ⟨b,q,none⟩)))) (hz:At Γ true z (.agg lx))
 (hk:H[k]?=some (Own.box b T' l)) (hn:lx.length=n) (hq:Nat.ble (q+n) l.length=true)
 (kk:∀a' w',St c I (H.set k (Own.box b T' (cm l q lx))) Γ a' w'->wpList P ops Q rest a' w'):
 wpList P ops Q (⟨none,.store T y z,ty,p,af,none⟩::rest) a w:=by
 obtain⟨cs,hv,hl⟩:=hz I a U.env rfl;obtain⟨w',hr,bj⟩:=U.qe (q:=q) (lx:=lx) (v:=a.eval z) k hT hk (by rw[hv];exact hl) hn hq;exact eN rfl (mE (hy I a U.env rfl) rfl hr (kk _ _ bj))
def St.ub {b:Nat} {l lx:List AV} (k:Nat) (U:St c I H Γ a w) (hT:Ty P T true n m zv) (hy:At Γ true y (.val (.pointer (some ⟨b,0,none⟩)))) (hz:At Γ true z (.agg lx))
 (hk:H[k]?=some (Own.box b T' l)) (hn:lx.length=n) (hl:l.length=n)
 (kk:∀a' w',St c I (H.set k (Own.box b T' lx)) Γ a' w'->wpList P ops Q rest a' w'):
 wpList P ops Q (⟨none,.store T y z,ty,p,af,none⟩::rest) a w:=
 U.lz k hT hy hz hk hn (by rw[hl];simp) λa' w' h=>kk a' w' (by
  have e:cm l 0 lx=lx:=by simp[cm];omega
  rwa[e] at h)
def St.qg {sz:Nat} (U:St c I H Γ a w) (T:TypeId):St c I (H++[Own.row (.slice none 0 0) T sz []]) Γ a w:=
 ⟨U.step,⟨λy hy=>by
  rcases List.mem_append.1 hy with hy|hy
  .exact U.own.all y hy
  .obtain rfl:=by simpa using hy
   exact⟨⟨λr hr=>by simp at hr,.inl ⟨rfl,.inl rfl⟩⟩,λb e=>by simp[Own.row,fW] at e⟩,
  by rw[List.pairwise_append];exact⟨U.own.apart,by simp,λy _ z hz b _ e=>by obtain rfl:z=_:=List.mem_singleton.1 hz;simp[Own.row,fW] at e⟩⟩,U.env,U.size,U.defers⟩
def uc {v:Value} (h:nV v):fW v=none:=by
 rcases h with rfl|⟨q,rfl,_⟩<;>simp[fW]
def St.ud {v:Value} {sz:Nat} (U:St c I H Γ a w) (T:TypeId) (hv:nV v):St c I (H++[Own.row v T sz []]) Γ a w:=
 ⟨U.step,⟨λy hy=>by
  rcases List.mem_append.1 hy with hy|hy
  .exact U.own.all y hy
  .obtain rfl:=by simpa using hy
   exact⟨⟨λr hr=>by simp at hr,.inl ⟨rfl,hv⟩⟩,λb e=>by rw[jt,uc hv] at e;cases e⟩,
  by rw[List.pairwise_append];exact⟨U.own.apart,by simp,λy _ z hz b _ e=>by obtain rfl:z=_:=List.mem_singleton.1 hz;rw[jt,uc hv] at e;cases e⟩⟩,U.env,U.size,U.defers⟩
def eO {α:Type} {sz:Nat}:∀{l:List (List α)},(∀r∈l,r.length=sz)->l.flatten.length=l.length*sz
 |[],_=>by simp
 |x::l,h=>by
  rw[List.flatten_cons,List.length_append,h x aJ,eO (λr hr=>h r (by simp[hr])),List.length_cons,Nat.succ_mul,Nat.add_comm]
def mG (w:World) (E:TypeId) (sz:Nat) (v:Value) (k:Nat) (xs:List Value):Prop:=
 xs.length=k*sz/\((k=0/\nV v)\/∃b cap cur,v=.slice (some ⟨b,0,none⟩) k cap/\0<cap/\w.heap[b]?=some (.cells cur E (0,0))/\k<=cap/\cap<=maxLen/\cur.size=cap*sz/\cur.toList.take (k*sz)=xs)
def z3 {v:Value} {i:TypeInfo} {sz k mm:Nat} {xs:List Value} (hU:P.underlying T=some (.slice E)) (hi:P.info? E=some i) (hz:i.zero=some zv) (h1:i.size=sz) (h2:i.bytes=m) (dV:zv.cells.size=sz)
 (cS:mG w E sz v k xs) (ad:Addr) (cp:Nat) (cs:List Value) (hl:cs.length=mm*sz) (hc:∀j u,cs[j]?=some u->w.cell? (ad.add j)=some u) (z4:∀u∈cs,u.oneCell'=true)
 (kd:k+mm<=maxLen) (hb:(k+mm)*m<=140737488355328):
 ∃v' w',(Builtin.append_ #[T,T] ty #[v,.slice (some ad) mm cp]).run P w=.ok v' w'/\mG w' E sz v' (k+mm) (xs++cs)/\
  ((v'=v/\w'=w)\/(∃g cap gB cur,v=.slice (some ⟨g,0,none⟩) k cap/\0<cap/\v'=.slice (some ⟨g,0,none⟩) (k+mm) gB/\0<gB/\w'=w.setRow g cur)\/
   ∃gB cur,v'=.slice (some ⟨w.heap.size,0,none⟩) (k+mm) gB/\0<gB/\w'=w.drew.alloc (.cells cur E)):=by
 subst h1 h2;have Hr:k+mm<=9223372036854775807:=by simp only[maxLen] at kd;omega
 have gQ:=cS.1;have hlen:(xs++cs).length=(k+mm)*i.size:=by rw[List.length_append,gQ,hl,Nat.add_mul]
 have fresh:∀cR,0<k+mm->mG (w.drew.alloc (.cells (xs.toArray++cs.toArray++Builtin.zeroCells zv.cells (grownCap w (k+mm) cR E-(k+mm))) E)) E i.size
  (.slice (some ⟨w.heap.size,0,none⟩) (k+mm) (grownCap w (k+mm) cR E)) (k+mm) (xs++cs):=λcR ia=>by
  have n6:=grownCap_ge w (k+mm) cR E;refine⟨hlen,.inr ⟨w.heap.size,_,_,rfl,by omega,j9 w.drew _,n6,grownCap_le_maxLen w (k+mm) cR E kd,?_,?_⟩⟩
  .have e1:=size_zeroCells zv.cells (grownCap w (k+mm) cR E-(k+mm));rw[Array.size_append,Array.size_append,e1,dV];simp only[List.size_toArray,gQ,hl,<-Nat.add_mul];congr 1;omega
  simp only[Array.toList_append,List.append_assoc];rw[<-List.append_assoc,<-hlen];exact List.take_left
 have ib:∀cR,0<k+mm->0<grownCap w (k+mm) cR E:=λcR h=>by have:=grownCap_ge w (k+mm) cR E;omega
 rcases cS.2 with⟨rfl,ke⟩|⟨g,cap,cur,rfl,qh,hg,ue,qi,fC,uf⟩
 .obtain rfl:xs=[]:=List.eq_nil_of_length_eq_zero (by simpa using gQ);rcases Nat.eq_zero_or_pos mm with rfl|ia
  .obtain rfl:cs=[]:=List.eq_nil_of_length_eq_zero (by simpa using hl);refine⟨v,w,?_,⟨by simp,.inl ⟨rfl,ke⟩⟩,.inl ⟨rfl,rfl⟩⟩;rcases ke with rfl|⟨q,rfl,_⟩
   .simp[Builtin.append_,run_underlying hU,sizeOf,typeInfo,hi,Builtin.lenOf,Builtin.firstCells,loadCells,loadCellsFrom]
   simp[Builtin.append_,run_underlying hU,sizeOf,typeInfo,hi,Builtin.lenOf,Builtin.firstCells,loadCells,loadCellsFrom,storeCells]
  rcases ke with rfl|⟨q,rfl,_⟩
  .have hr:=run_append_nil (P:=P) w T ty E i zv hU hi hz ad mm cp cs hl hc ia om (by simp only[Nat.zero_add] at hb;omega);have hf:=fresh 0 om;have ug:=ib 0 om;simp only[Nat.zero_add,List.nil_append,Array.empty_append] at hf ug⊢;exact⟨_,_,hr,hf,.inr (.inr ⟨_,_,rfl,ug,rfl⟩)⟩
  have hr:=run_append_grow (P:=P) w T ty E i zv hU hi hz q 0 0 [] aJ (λj u h=>by simp at h) ad mm cp cs hl hc om om (growslice_fits om hb);exact⟨_,_,hr,fresh 0 om,.inr (.inr ⟨_,_,rfl,ib 0 om,rfl⟩)⟩
 by_cases qj:k+mm<=cap
 .have fc:k*i.size+cs.length<=cur.size:=by rw[hl,fC,<-Nat.add_mul];exact Nat.mul_le_mul_right _ qj
  have hr:=run_append_room (P:=P) w T ty E i hU hi g k cap cur hg ad mm cp cs hl hc z4 qj fc;refine⟨_,_,hr,⟨hlen,.inr ⟨g,cap,_,rfl,qh,setRow_heap w g cur _ E _ hg,qj,qi,?_,?_⟩⟩,.inr (.inl ⟨g,cap,cap,_,rfl,qh,rfl,qh,rfl⟩)⟩
  .simp only[List.size_toArray,List.length_append,List.length_take,List.length_drop,Array.length_toList];omega
  rw[uf,<-hlen];exact List.take_left
 have holds:∀j u,xs[j]?=some u->w.cell? ((⟨g,0,none⟩:Addr).add j)=some u:=λj u hu=>by
  rw[add_plain];simp only[World.cell?,hg,Option.isSome_none,Bool.false_eq_true,if_false];rw[<-uf,List.getElem?_take] at hu;split at hu
  .simpa using hu
  cases hu
 have hr:=run_append_grow (P:=P) w T ty E i zv hU hi hz ⟨g,0,none⟩ k cap xs gQ holds ad mm cp cs hl hc om om (growslice_fits om hb);exact⟨_,_,hr,fresh cap om,.inr (.inr ⟨_,_,rfl,ib cap om,rfl⟩)⟩
def z5 {I:Im} {w:World} {E:TypeId} {sz:Nat} {v:Value} {l:List (List AV)} (h:(Own.row v E sz l).ok I w):∃xs,mG w E sz v l.length xs/\aC I l.flatten xs:=by
 obtain⟨bf,⟨rfl,hb⟩|⟨b,cap,cur,e,h0,h1,h2,h3,h4,h5⟩⟩:=h
 .exact⟨[],⟨by simp,.inl ⟨rfl,hb⟩⟩,trivial⟩
 exact⟨_,⟨by rw[h5.length,eO bf],.inr ⟨b,cap,cur,e,h0,h1,h2,h3,h4,rfl⟩⟩,h5⟩
def z6 {I:Im} {w:World} {E:TypeId} {sz:Nat} {v:Value} {l:List (List AV)} {xs:List Value} (bf:∀r∈l,r.length=sz) (h:mG w E sz v l.length xs) (hx:aC I l.flatten xs):(Own.row v E sz l).ok I w:=by
 obtain⟨_,⟨h0,hb⟩|⟨b,cap,cur,e,h0,h1,h2,h3,h4,rfl⟩⟩:=h
 .exact⟨bf,.inl ⟨List.eq_nil_of_length_eq_zero h0,hb⟩⟩
 exact⟨bf,.inr ⟨b,cap,cur,e,h0,h1,h2,h3,h4,hx⟩⟩
def aO.renew {base:Nat->Prop} {w':World} {k:Nat} {x x':Own} (h:aO base I w H) (hm:cx w I) (hb:base w.heap.size) (hk:H[k]?=some x) (dU:∀b,x'.bP b->b=w.heap.size)
 (aX:Step I w I w') (bH:w.heap.size<w'.heap.size) (ok:x'.ok I w'):aO base I w' (H.set k x'):=by
 have h':=h.step aX;refine⟨λy hy=>?_,fB h.apart λb e=>.inr λy hy e'=>?_⟩
 .rcases List.mem_or_eq_of_mem_set hy with hy|rfl
  .exact h'.all y hy
  exact⟨ok,λb e=>by obtain rfl:=dU b e;exact⟨hb,hm.none (Nat.le_refl _),bH⟩⟩
 obtain rfl:=dU b e;have:=((h.all y hy).2 _ e').2.2;omega
def Step.uh {w:World} {I:Im} (h:cx w I) (o:Obj):Step I w I (w.drew.alloc o):=
 ⟨Im.le_refl _,λ_ _=>rfl,cx.alloc (w:=w.drew) h o,((Below.refl w.heap.size w).drew).alloc (Nat.le_refl _) _⟩
def St.z7 {v:Value} {sz:Nat} {l l2:List (List AV)} {x:Value} {ag:Bool} (k:Nat) (U:St c I H Γ a w) (hU:P.underlying T=some (.slice E)) (hE:Ty P E ag sz m zv) (dV:zv.cells.size=sz)
 (hk:H[k]?=some (Own.row v E sz l)) (hx:(AV.rows sz l2).h I x) (hb:(l.length+l2.length)*m<=140737488355328) (kd:l.length+l2.length<=maxLen):
 ∃v' w',(Builtin.append_ #[T,T] ty #[v,x]).run P w=.ok v' w'/\St c I (H.set k (Own.row v' E sz (l++l2))) Γ a w':=by
 obtain⟨nR,h2⟩:=U.own.all _ (List.mem_of_getElem? hk);have z8:=nR.1;obtain⟨xs,cS,hl⟩:=z5 nR;obtain⟨q,cap,e,g1,g2,g3,g4,g5⟩:=hx;obtain⟨i,hi,qk,dW,ql⟩:=hE.get;have ei:k<H.length:=(List.getElem?_eq_some_iff.1 hk).1;have jy:H.set k (Own.row v E sz l)=H:=by
  rw[List.getElem?_eq_getElem ei] at hk;have cX:H[k]=Own.row v E sz l:=by simpa using hk
  rw[<-cX];exact List.set_getElem_self ei
 cases q with
 |none=>
  have hK:l2=[]:=g4.resolve_right (λ⟨_,h,_⟩=>by cases h)
  subst hK
  have lA:=g5 rfl
  subst lA
  refine⟨v,w,?_,?_⟩
  .rw[e]
   rcases cS.2 with⟨h0,rfl|⟨q,rfl,_⟩⟩|⟨b,cap,cur,rfl,_,_,ue,_⟩
   .simp[Builtin.append_,run_underlying hU,sizeOf,typeInfo,hi,Builtin.lenOf,Builtin.firstCells]
   .simp[Builtin.append_,run_underlying hU,sizeOf,typeInfo,hi,Builtin.lenOf,Builtin.firstCells,storeCells]
   simp[Builtin.append_,run_underlying hU,sizeOf,typeInfo,hi,Builtin.lenOf,Builtin.firstCells,storeCells,ue]
  rw[List.append_nil,jy];exact U
 |some q=>
  have z9:∃cs:List Value,aC I l2.flatten cs/\∀j u,cs[j]?=some u->w.cell? (q.add j)=some u:=by
   rcases g4 with rfl|⟨q,hq,kk⟩
   .exact⟨[],trivial,λj u h=>by simp at h⟩
   cases hq;obtain⟨b,off,s⟩:=q;obtain rfl:s=none:=kk.1;obtain⟨cs,h1,h2,h3⟩:=kk.toArray U.step.bO;exact⟨cs,h2,h3⟩
  obtain⟨cs,fC,lv⟩:=z9
  have hlen:cs.length=l2.length*sz:=by rw[fC.length,eO g3]
  obtain⟨v',w',hr,qm,hw⟩:=z3 (P:=P) (ty:=ty) hU hi ql qk dW dV cS q cap cs hlen lv fC.one kd hb
  refine⟨v',w',by rw[e];exact hr,?_⟩
  have ak:(Own.row v' E sz (l++l2)).ok I w':=z6 (xs:=xs++cs) (λr hr=>by
   rcases List.mem_append.1 hr with hr|hr
   .exact z8 r hr
   exact g3 r hr) (by rw[List.length_append];exact qm) (by rw[List.flatten_append];exact hl.append fC)
  rcases hw with⟨rfl,rfl⟩|⟨gg,Aa,lB,cur,rfl,ui,rfl,mH,rfl⟩|⟨lB,cur,rfl,mH,rfl⟩
  .refine U.written U.step ⟨λy hy=>?_,fB U.own.apart λb hb=>.inl ⟨_,hk,hb⟩⟩
   rcases List.mem_or_eq_of_mem_set hy with hy|rfl
   .exact U.own.all y hy
   exact⟨ak,h2⟩
  .have ab:fW (.slice (some ⟨gg,0,none⟩) l.length Aa)=some gg:=lq om
   have ah:∀n,fW (.slice (some ⟨gg,0,none⟩) n lB)=some gg:=λn=>lq om
   obtain⟨k1,k2,k3⟩:=h2 gg ab
   exact U.written (U.step.write k1 k2 aJ rfl rfl rfl λk' cX=>setRow_other w gg k' _ cX) (U.own.write hk (by funext b;rw[jt,jt,ab,ah]) aJ (λk' cX=>setRow_other w gg k' _ λe=>cX (by rw[e];exact ab)) ak)
  have st:=Step.uh U.step.bO (.cells cur E)
  exact U.written (U.step.trans st) (U.own.renew U.step.bO U.room hk (λ_ e=>tq om e) st aJ ak)
def St.append {v:Value} {sz:Nat} {l l2:List (List AV)} {ag:Bool} (k:Nat) (U:St c I H Γ a w) (hd:Nat.blt d c.n=true) (hU:P.underlying T=some (.slice E)) (hE:Ty P E ag sz m zv) (dV:zv.cells.size=sz)
 (hy:At Γ true y (.val v)) (hz:At Γ true z (.rows sz l2)) (hk:H[k]?=some (Own.row v E sz l)) (hb:(l.length+l2.length)*m<=140737488355328/\l.length+l2.length<=140737488355328)
 (kk:∀v' a' w',St c I (H.set k (Own.row v' E sz (l++l2))) ((d,.val v')::Γ) a' w'->wpList P ops Q rest a' w'):
 wpList P ops Q (⟨some d,.call ⟨.builtin .append,#[y,z],#[T,T]⟩,ty,p,af,none⟩::rest) a w:=by
 obtain⟨v',w',hr,bj⟩:=U.z7 (ty:=ty) k hU hE dV hk (hz I a U.env rfl) hb.1 (by simp only[maxLen];omega);refine eN rfl ?_;have e1:a.eval y=v:=hy I a U.env rfl;unfold Oper.wp;simp only[execOp,resolve,invoke,builtin,Sem.run_bind,Sem.run_pure,Result.andThen_ok,List.map_toArray,List.map_cons,List.map_nil,e1,hr];exact kk v' _ _ (bj.hZ bj.step (Im.le_refl _) bj.own hd rfl)
end
section
variable {P:Program} {c:Ctx} {I:Im} {H:List Own} {Γ:Env} {a:Act} {w:World} {Q:Exit->Act->World->Prop} {ops:Array Oper} {rest:List Oper}
variable {d:Nat} {y z:Operand} {ty T T' E:TypeId} {p:String} {af:Array Edge} {g:Bool} {gd:Option (Nat×Bool)} {n m:Nat} {zv:Value}
def Ab {I:Im} {z:Array Value} {l:List AV} (h:aC I l z.toList):∀k,aC I (List.replicate k l).flatten (madeCells z (k*z.size)).toList:=by
 intro k;have key:∀k,(madeCells z (k*z.size)).toList=(List.replicate k z.toList).flatten:=by
  intro k;apply List.ext_getElem?;intro j;simp only[madeCells];by_cases hz:z.size=0
  .have:z.toList=[]:=by simpa using hz
   simp[hz,this]
  have fM:(List.replicate k z.toList).flatten.length=k*z.size:=by
   rw[eO (sz:=z.size) (λr hr=>by rw[(List.mem_replicate.1 hr).2];simp),List.length_replicate]
  by_cases hj:j<k*z.size
  .have hq:j/z.size<k:=Nat.div_lt_of_lt_mul (by rw[Nat.mul_comm];exact hj);have hm:j%z.size<z.size:=Nat.mod_lt _ om;have hr:(List.replicate k z.toList)[j/z.size]?=some z.toList:=by simp[hq]
   have h2:=nU (List.replicate k z.toList) z.size (λr hr=>by rw[(List.mem_replicate.1 hr).2];simp) _ _ hr;have h3:(List.replicate k z.toList).flatten[j]?=z.toList[j%z.size]?:=by
    have h4:(((List.replicate k z.toList).flatten.drop (j/z.size*z.size)).take z.size)[j%z.size]?=z.toList[j%z.size]?:=by rw[h2]
    rw[List.getElem?_take,if_pos hm,List.getElem?_drop] at h4;rw[<-h4];congr 1;have:=Nat.div_add_mod j z.size;rw[Nat.mul_comm] at this;exact this.symm
   rw[h3];simp[hj,hm]
  have e1:(List.replicate k z.toList).flatten[j]?=none:=by simp only[List.getElem?_eq_none_iff];omega
  rw[e1];simp;omega
 rw[key];induction k with
 |zero=>simp[aC]
 |succ k ih=>
  rw[List.replicate_succ,List.replicate_succ,List.flatten_cons,List.flatten_cons]
  exact h.append ih
def St.make {l:List AV} {sz:Nat} {ag:Bool} {k:Nat} (U:St c I H Γ a w) (hd:Nat.blt d c.n=true) (hU:P.underlying T=some (.slice E)) (hE:Ty P E ag sz m zv) (uj:∀I,aC I l zv.cells.toList) (dV:zv.cells.size=sz)
 (hy:At Γ true y (.int k)) (hz:At Γ true z (.int k)) (hb:m*k<=281474976710656/\k<=281474976710656)
 (kk:∀b a' w',St c I (H++[Own.row (.slice (some ⟨b,0,none⟩) k k) E sz (List.replicate k l)]) ((d,.val (.slice (some ⟨b,0,none⟩) k k))::Γ) a' w'->wpList P ops Q rest a' w'):
 wpList P ops Q (⟨some d,.makeSlice T y z,ty,p,af,none⟩::rest) a w:=by
 obtain⟨i,hi,h1,h2,h3⟩:=hE.get;have kd:k<=maxLen:=by simp only[maxLen];omega
 have hr:=run_make (P:=P) w T E i zv hU hi h3 .i64 .i64 k k (by omega) (Int.le_refl _) (by rw[h2];have:=hb.1;have:((m*k:Nat):Int)<=281474976710656:=by omega
                                                                                           rwa[Int.natCast_mul] at this) om
 simp only[Int.toNat_natCast] at hr;refine eN rfl ?_;have e1:a.eval y=.int .i64 k:=hy I a U.env rfl;have e2:a.eval z=.int .i64 k:=hz I a U.env rfl;unfold Oper.wp;simp only[execOp,e1,e2,hr,Sem.run_bind,Sem.run_pure,Result.andThen_ok,Oper.upon_value];rw[h1];have hlen:l.length=sz:=by rw[<-dV,<-(uj I).length];simp
 have hm:=Ab (uj I) k;rw[dV] at hm;have Ac:∀r∈List.replicate k l,r.length=sz:=λr hr=>by rw[(List.mem_replicate.1 hr).2,hlen]
 have aX:=Step.alloc U.step.bO (.cells (madeCells zv.cells (k*sz)) E);refine kk w.heap.size _ _ (U.hZ (U.step.trans aX) (Im.le_refl _) ?_ hd rfl);rcases Nat.eq_zero_or_pos k with rfl|ia
 .have:=((St.written U (U.step.trans aX) (U.own.step aX)).ud (sz:=sz) (v:=.slice (some ⟨w.heap.size,0,none⟩) 0 0) E (.inr ⟨_,rfl,rfl⟩)).own;simpa using this
 refine U.own.push (x:=Own.row (.slice (some ⟨w.heap.size,0,none⟩) k k) E sz (List.replicate k l)) U.room (λ_ e=>tq om e) U.step.bO ⟨Ac,.inr ⟨w.heap.size,k,_,by rw[List.length_replicate],ia,j9 w _,by simp,kd,size_madeCells _ _,?_⟩⟩;rw[List.length_replicate,List.take_of_length_le (by simp[madeCells])];exact hm
def St.shape {v:Value} {sz:Nat} {l:List (List AV)} (k:Nat) (U:St c I H Γ a w) (hk:H[k]?=some (Own.row v E sz l)) (hl:0<l.length):∃b cap,v=.slice (some ⟨b,0,none⟩) l.length cap:=by
 obtain⟨⟨_,⟨h0,_⟩|⟨b,cap,cur,e,_⟩⟩,_⟩:=U.own.all _ (List.mem_of_getElem? hk)
 .subst h0;simp at hl
 exact⟨b,cap,e⟩
def Ad {I:Im} {w:World} {v:Value} {sz:Nat} {l:List (List AV)} (h:(Own.row v E sz l).ok I w):∃q cap,v=.slice q l.length cap:=by
 obtain⟨_,⟨rfl,rfl|⟨q,rfl,_⟩⟩|⟨b,cap,cur,e,_⟩⟩:=h
 .exact⟨none,0,rfl⟩
 .exact⟨some q,0,rfl⟩
 exact⟨_,cap,e⟩
def iR {d:Option Tmp} {v:Value} {sz:Nat} {l:List (List AV)} (k:Nat) (hT:P.underlying T=some (.slice T')) (h:At Γ g y (.val v)) (hk:H[k]?=some (Own.row v E sz l)):Ok P H Γ g ⟨d,.call ⟨.builtin .len,#[y],#[T]⟩,ty,p,af,gd⟩ (.int l.length):=
 dr λbase I a w he hm hw hg=>by
  have e:a.eval y=_:=h I a he hg;refine⟨_,?_,rfl⟩;have hv:=Ad (hw.all _ (List.mem_of_getElem? hk)).1;obtain⟨q,cap,rfl⟩:=hv;simp only[execOp,resolve,List.map_toArray,List.map_cons,List.map_nil,e];simp[go_sem,Builtin.len_,run_underlying hT]
def qn {d:Option Tmp} {ag:Bool} {b sz k cap:Nat} {i:Int} (hT:P.underlying T=some (.slice E)) (hE:Ty P E ag sz m zv) (h:At Γ g y (.val (.slice (some ⟨b,0,none⟩) k cap))) (hi:At Γ g z (.int i)) (hb:g=true->0<=i/\i<k):
 Ok P H Γ g ⟨d,.indexAddr T y z,ty,p,af,gd⟩ (.val (.pointer (some ⟨b,i.toNat*sz,none⟩))):=
 du λI a w he hg=>by
  obtain⟨h0,h1⟩:=hb hg;have e:a.eval y=_:=h I a he hg;have e2:a.eval z=_:=hi I a he hg;have U:(sizeOf E).run P w=.ok sz w:=hE.size;simp only[execOp,e,e2,Instr.indexAt,asIntOf,Sem.run_bind,Sem.run_pure,Result.andThen_ok,run_underlying hT];simp[h0,h1,add_plain,U]
def uk {I:Im} {w:World} {sz b cap:Nat} {l:List (List AV)} (h:(Own.row (.slice (some ⟨b,0,none⟩) l.length cap) E sz l).ok I w) (hl:l≠[]):
 ∃cur,0<cap/\w.heap[b]?=some (.cells cur E (0,0))/\l.length<=cap/\cap<=maxLen/\cur.size=cap*sz/\aC I l.flatten (cur.toList.take (l.length*sz)):=by
 obtain⟨_,⟨h0,_⟩|⟨b',gB,cur,e,h0,h1,h2,h3,h4,h5⟩⟩:=h
 .exact absurd h0 hl
 cases e;exact⟨cur,h0,h1,h2,h3,h4,h5⟩
def Ae {k b cap q sz i j:Nat} {l:List (List AV)} {r:List AV} (hk:H[k]?=some (Own.row (.slice (some ⟨b,0,none⟩) l.length cap) E sz l)) {base:Nat->Prop} (hw:aO base I w H) (hr:l[i]?=some r) (hq:q=i*sz+j) (hj:j<=sz):
 ∃cs:List Value,aC I (r.drop j) cs/\cs.length=sz-j/\∀t u,cs[t]?=some u->w.cell? ⟨b,q+t,none⟩=some u:=by
 obtain⟨ak,_⟩:=hw.all _ (List.mem_of_getElem? hk);have bf:=ak.1;have hi:i<l.length:=(List.getElem?_eq_some_iff.1 hr).1;obtain⟨cur,_,hb,h3,_,h5,hl⟩:=uk ak (λe=>by subst e;simp at hi);have kf:r.length=sz:=bf r (List.mem_of_getElem? hr);have hK:=((hl.drop (i*sz)).take sz).drop j;rw[nU l sz bf i r hr] at hK;refine⟨_,hK,?_,λt u hu=>?_⟩
 .rw[hK.length,List.length_drop,kf]
 rw[List.getElem?_drop,List.getElem?_take] at hu;split at hu
 .rename_i bH;rw[List.getElem?_drop,List.getElem?_take] at hu;split at hu
  .simp only[World.cell?,hb,Option.isSome_none,Bool.false_eq_true,if_false];rw[hq,<-Array.getElem?_toList,Nat.add_assoc,hu]
  cases hu
 cases hu
def um {α:Type} {sz:Nat}:∀{l:List (List α)} {i j:Nat} {r x:List α},(∀r∈l,r.length=sz)->l[i]?=some r->j+x.length<=sz->cm l.flatten (i*sz+j) x=(l.set i (cm r j x)).flatten
 |[],_,_,_,_,_,h,_=>by simp at h
 |y::l,0,j,r,x,U,h,hj=>by
  simp at h;subst h;have hy:y.length=sz:=U y aJ;simp only[List.set_cons_zero,List.flatten_cons,cm,Nat.zero_mul,Nat.zero_add];rw[List.take_append_of_le_length om,List.drop_append_of_le_length om];simp
 |y::l,i+1,j,r,x,U,h,hj=>by
  have hy:y.length=sz:=U y aJ;have ih:=um (l:=l) (i:=i) (j:=j) (r:=r) (x:=x) (λr hr=>U r (by simp[hr])) (by simpa using h) hj;rw[List.set_cons_succ,List.flatten_cons,List.flatten_cons,<-ih];simp only[cm];have e1:(i+1)*sz+j=y.length+(i*sz+j):=by rw[hy,Nat.succ_mul];omega
  rw[e1,List.take_append,List.take_of_length_le (Nat.le_add_right _ _),Nat.add_sub_cancel_left,Nat.add_assoc,List.drop_append,List.drop_eq_nil_of_le om];simp[Nat.add_assoc]
def Af {α:Type} (L x:List α) (q N:Nat) (h:q+x.length<=N) (hL:N<=L.length):(cm L q x).take N=cm (L.take N) q x:=by
 apply List.ext_getElem?;intro t;simp only[cm,List.getElem?_take,List.getElem?_append,List.length_append,List.length_take,List.getElem?_drop];(repeat' split)<;>first|rfl|omega|(congr 1;omega)|skip
def St.uq {ag:Bool} {b cap q sz i j:Nat} {l:List (List AV)} {r lx:List AV} {v:Value} (k:Nat) (U:St c I H Γ a w) (hT:Ty P T ag n m zv) (hk:H[k]?=some (Own.row (.slice (some ⟨b,0,none⟩) l.length cap) E sz l))
 (hv:aC I lx v.cells.toList) (hn:lx.length=n) (hr:l[i]?=some r) (hq:q=i*sz+j) (hj:j+n<=sz):
 ∃w',(storeVar T ⟨b,q,none⟩ v).run P w=.ok () w'/\St c I (H.set k (Own.row (.slice (some ⟨b,0,none⟩) l.length cap) E sz (l.set i (cm r j lx)))) Γ a w':=by
 obtain⟨ak,h2⟩:=U.own.all _ (List.mem_of_getElem? hk);have bf:=ak.1;have hi:i<l.length:=(List.getElem?_eq_some_iff.1 hr).1;obtain⟨cur,h0,hb,h3,h4,h5,hl⟩:=uk ak (λe=>by subst e;simp at hi);have dU:(Own.row (.slice (some ⟨b,0,none⟩) l.length cap) E sz l).bP b:=pV om;obtain⟨kb,iQ,qf⟩:=h2 b dU;have kf:r.length=sz:=bf r (List.mem_of_getElem? hr);have jx:=hv.length;have hle:(i+1)*sz<=l.length*sz:=Nat.mul_le_mul_right _ hi;have lA:l.length*sz<=cap*sz:=Nat.mul_le_mul_right _ h3;rw[Nat.succ_mul] at hle;have dM:=tY (P:=P) hT (q:=q) (v:=v) hb (by simp at jx;omega) om hv.one;refine⟨_,dM,U.written (U.step.write kb iQ aJ rfl rfl rfl λk' cX=>setRow_other w b k' _ cX) (U.own.write hk rfl aJ (λk' cX=>setRow_other w b k' _ λe=>cX (by rw[e];exact dU)) ?_)⟩;have Ag:v.cells.toList.length=n:=by omega
 have mI:v.cells.size=n:=by simpa using Ag
 have Ah:q+n<=cur.size:=by omega
 refine⟨λx hx=>?_,.inr ⟨b,cap,_,by rw[List.length_set],h0,setRow_heap w b cur _ E _ hb,by rw[List.length_set];exact h3,h4,?_,?_⟩⟩
 .rcases List.mem_or_eq_of_mem_set hx with hx|rfl
  .exact bf x hx
  simp only[cm,List.length_append,List.length_take,List.length_drop];omega
 .simp only[cm,List.size_toArray,List.length_append,List.length_take,List.length_drop,Array.length_toList];omega
 rw[List.length_set];rw[show((cm cur.toList q v.cells.toList).toArray.toList.take (l.length*sz))=cm (cur.toList.take (l.length*sz)) q v.cells.toList from Af _ _ _ _ om dF];rw[<-um bf hr om,<-hq];simp only[cm];have mF:lx.length=v.cells.toList.length:=jx.symm;rw[mF];exact((hl.take q).append hv).append (hl.drop (q+v.cells.toList.length))
end
end Go.Proofs.YtldbakcpcfdlaaaGreat
