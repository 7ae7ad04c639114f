/- Part 1: rules of the proofs. -/
import Derived.Orders
import Derived.Test.YtdanidpleofjgaaGreatP00
set_option linter.all false
namespace Go.Proofs.YtdanidpleofjgaaGreat
open Go Go.RowKit
def Env.only (ts:List Nat) (Γ:Env):Env:=Γ.filter λp=>ts.contains p.1
def Env.GU {ts:List Nat} {t:Nat} {x:AV}:∀{Γ:Env},Env.get t (Env.only ts Γ)=some x->Env.get t Γ=some x/\ts.contains t=true
 |[],h=>by simp[Env.only,Env.get] at h
 |p::r,h=>by
  have ih:=λk=>Env.GU (ts:=ts) (t:=t) (x:=x) (Γ:=r) k;unfold Env.only at h ih;rw[List.filter_cons] at h;cases hm:ts.contains p.1 with
  |false=>
   rw[hm] at h
   have:=ih (by simpa using h)
   refine⟨?_,this.2⟩
   simp only[Env.get]
   cases hb:Nat.beq p.1 t with
   |true=>
    obtain rfl:p.1=t:=Nat.eq_of_beq_eq_true hb
    rw[this.2] at hm;cases hm
   |false=>simpa using this.1
  |true=>
   rw[hm] at h
   simp only[if_true,Env.get] at h⊢
   cases hb:Nat.beq p.1 t with
   |true=>
    rw[hb] at h
    obtain rfl:p.1=t:=Nat.eq_of_beq_eq_true hb
    exact⟨h,hm⟩
   |false=>
    rw[hb] at h
    exact ih h
def pn (P:Program) (H:List Own) (ops:Array Oper) (Γ:Env) (o:Oper) (x:AV):Prop:=
 ∀(base:Nat->Prop) (I:Im) (a:Act) (w:World) (K:Act->World->Prop) (Q:Exit->Act->World->Prop),dp I a Γ->eB w I->cq base I w H->
  (∀v I' w',x.h I' v->Step I w I' w'->K (a.put o.dst v) w')->
  if Region.wanted o (yielded ops a.tmps) then o.wp P a w K Q else K (a.put o.dst undef) w
section
variable {P:Program} {H:List Own} {Γ:Env}
def pn.of {ops:Array Oper} {o:Oper} {x:AV} (hg:o.guard=none) (ok:Ok P H Γ true o x):pn P H ops Γ o x:=λbase I a w K Q he hm hw k=>by
 rw[if_pos (by simp[Region.wanted,hg])];exact ok base I a w K Q he hm hw rfl k
def pn.De {ops:Array Oper} {o:Oper} {x:AV} {G:Bool} (hg:jA ops Γ o G) (ok:Ok P H Γ G o x):pn P H ops Γ o (.cond G x):=λbase I a w K Q he hm hw k=>by
 rw[hg I a he];cases G with
 |true=>
  rw[if_pos rfl]
  exact ok base I a w K Q he hm hw rfl λv I' w' hx s=>k v I' w' ⟨λ_=>hx,λh=>(by cases h)⟩ s
 |false=>
  rw[if_neg bk]
  exact k undef I w ⟨λh=>(by cases h),λ_=>rfl⟩ (Step.refl hm)
def tq (P:Program) (H:List Own) (ops:Array Oper):Env->List Oper->List AV->Prop
 |_,[],[]=>True
 |Γ,o::os,x::xs=>pn P H ops (Γ.only (o.looksAt ops)) o x/\tq P H ops ((o.dst.getD 0,x)::Γ) os xs
 |_,_,_=>False
def tq.n {ops:Array Oper}:tq P H ops Γ [] []:=trivial
def tq.c {ops:Array Oper} {o:Oper} {os:List Oper} {x:AV} {xs:List AV} (h:pn P H ops (Γ.only (o.looksAt ops)) o x) (k:tq P H ops ((o.dst.getD 0,x)::Γ) os xs):tq P H ops Γ (o::os) (x::xs):=⟨h,k⟩
def sa (Γ:Env):List Oper->List AV->Env
 |o::os,x::xs=>sa ((o.dst.getD 0,x)::Γ) os xs
 |_,_=>Γ
end
def AJ (s:List Nat) (x:Nat):List Nat:=if s.contains x then s else x::s
def MW {s:List Nat} {x k:Nat} (h:k∈AJ s x):k=x\/k∈s:=by
 unfold AJ at h;split at h
 .exact .inr h
 exact List.mem_cons.1 h
def MX (s t:List Nat):List Nat:=t.foldl AJ s
def MY {k:Nat}:∀{t s:List Nat},k∈MX s t->k∈s\/k∈t
 |[],s,h=>.inl h
 |x::t,s,h=>by
  rcases MY (t:=t) (s:=AJ s x) h with h|h
  .rcases MW h with rfl|h
   .exact .inr bk
   exact .inl h
  exact .inr (by simp[h])
def uO (acc:List (List Nat)):List Edge->List Nat
 |[]=>[]
 |e::r=>if Region.binds .any e then MX (AJ (uO acc r) e.on) (acc.getD e.on []) else uO acc r
def jW:List (List Nat)->List Oper->List (List Nat)
 |acc,[]=>acc
 |acc,o::os=>jW (acc++[uO acc o.after.toList]) os
def MZ {S:Nat->Bool} {acc:List (List Nat)} (M0:∀i k,k∈acc.getD i []->S i=true->S k=true):∀{es:List Edge},(∀e∈es,Region.binds .any e=true->S e.on=true)->∀k∈uO acc es,S k=true
 |[],_,k,h=>by simp[uO] at h
 |e::r,he,k,h=>by
  have ih:=MZ M0 (es:=r) (λe' h'=>he e' (by simp[h']));unfold uO at h;split at h
  .rename_i hb;have M1:=he e bk hb;rcases MY h with h|h
   .rcases MW h with rfl|h
    .exact M1
    exact ih k h
   exact M0 _ _ h M1
  exact ih k h
def Df {S:Nat->Bool}:∀(os:List Oper) (acc:List (List Nat)),(∀i k,k∈acc.getD i []->S i=true->S k=true)->
 (∀i o,os[i]?=some o->S (acc.length+i)=true->∀e∈o.after.toList,Region.binds .any e=true->S e.on=true)->
 ∀i k,k∈(jW acc os).getD i []->S i=true->S k=true
 |[],acc,h,_=>h
 |o::os,acc,h,U=>by
  unfold jW;refine Df os _ (λi k hk hi=>?_) (λi o' ho hi=>?_)
  .by_cases bw:i<acc.length
   .refine h i k ?_ hi;simpa[List.getD,List.getElem?_append_left bw] using hk
   by_cases heq:i=acc.length
   .subst heq;have fC:k∈uO acc o.after.toList:=by simpa[List.getD] using hk
    by_cases hS:S acc.length=true
    .exact MZ h (U 0 o rfl (by simpa using hS)) k fC
    exact absurd hi hS
   have:(acc++[uO acc o.after.toList])[i]?=none:=by simp;omega
   rw[List.getD_eq_getElem?_getD,this] at hk;simp at hk
  have:=U (i+1) o' (by simpa using ho);simp only[List.length_append,List.length_cons,List.length_nil] at hi;exact this (by rw[<-hi];congr 1;omega)
def slotsOf (ops:Array Oper) (o:Oper):List Nat:=o.dst.toList++o.looksAt ops
abbrev oB:=Nat×Nat×AV
def fD:Nat->List Oper->List AV->List oB
 |k,o::os,x::xs=>(k,o.dst.getD 0,x)::fD (k+1) os xs
 |_,_,_=>[]
def fE (l:List oB):Env:=l.map (·.2)
def AK {t:Nat} {Γ:Env} {p q:oB->Bool}:∀(L:List oB),(∀e∈L,e.2.1=t->p e=q e)->Env.get t (fE (L.filter p)++Γ)=Env.get t (fE (L.filter q)++Γ)
 |[],_=>rfl
 |e::L,h=>by
  have ih:=AK (t:=t) (Γ:=Γ) (p:=p) (q:=q) L (λe' h'=>h e' (by simp[h']));by_cases ht:e.2.1=t
  .have:=h e bk ht;cases hp:p e
   .have hq:q e=false:=by rw[<-this];exact hp
    simpa[List.filter_cons,hp,hq] using ih
   have hq:q e=true:=by rw[<-this];exact hp
   simp[hp,hq,fE,Env.get,ht]
  have hb:Nat.beq e.2.1 t=false:=by
   cases hb:Nat.beq e.2.1 t with
   |false=>rfl
   |true=>exact absurd (Nat.eq_of_beq_eq_true hb) ht
  have key:∀(r:Bool->List oB),True:=λ_=>trivial;cases hp:p e<;>cases hq:q e<;>simp[hp,hq,fE,Env.get,hb]<;>simpa[fE] using ih
def GV {t i:Nat} {x:AV} {Γ:Env} {p:oB->Bool}:∀(L:List oB),L.Pairwise (λe f=>f.1<e.1)->(i,t,x)∈L->p (i,t,x)=true->(∀e∈L,p e=true->e.2.1=t->e.1<=i)->
 Env.get t (fE (L.filter p)++Γ)=some x
 |[],_,h,_,_=>by simp at h
 |e::L,hL,hm,hp,hle=>by
  rcases List.mem_cons.1 hm with rfl|nN
  .simp[hp,fE,Env.get]
  have bw:i<e.1:=(List.pairwise_cons.1 hL).1 _ nN;have ih:=GV (Γ:=Γ) L (List.pairwise_cons.1 hL).2 nN hp (λe' h'=>hle e' (by simp[h']));cases GW:p e
  .simpa[List.filter_cons,GW] using ih
  have aX:e.2.1≠t:=λht=>by have:=hle e bk GW ht;omega
  have hb:Nat.beq e.2.1 t=false:=by
   cases hb:Nat.beq e.2.1 t with
   |false=>rfl
   |true=>exact absurd (Nat.eq_of_beq_eq_true hb) aX
  simpa[List.filter_cons,GW,fE,Env.get,hb] using ih
def M2 {e:oB}:∀{k:Nat} {os:List Oper} {xs:List AV},e∈fD k os xs->∃i o,os[i]?=some o/\xs[i]?=some e.2.2/\e.1=k+i/\e.2.1=o.dst.getD 0
 |k,[],_,h=>by simp[fD] at h
 |k,o::os,[],h=>by simp[fD] at h
 |k,o::os,x::xs,h=>by
  rcases List.mem_cons.1 h with rfl|h
  .exact⟨0,o,rfl,rfl,rfl,rfl⟩
  obtain⟨i,o',h1,h2,h3,h4⟩:=M2 h;exact⟨i+1,o',by simpa using h1,by simpa using h2,by omega,h4⟩
def V7 {i:Nat} {o:Oper} {x:AV}:∀{k:Nat} {os:List Oper} {xs:List AV},os[i]?=some o->xs[i]?=some x->(k+i,o.dst.getD 0,x)∈fD k os xs:=by
 induction i with
 |zero=>intro k os xs h1 h2;cases os<;>cases xs<;>simp at h1 h2;subst h1 h2;simp[fD]
 |succ i ih=>
  intro k os xs h1 h2
  cases os<;>cases xs<;>simp at h1 h2
  have:=ih (k:=k+1) h1 h2
  simp only[fD,List.mem_cons]
  exact .inr (by rw[show k+(i+1)=k+1+i from by omega];exact this)
def Dg:∀(k:Nat) (os:List Oper) (xs:List AV),(fD k os xs).Pairwise (λe f=>e.1<f.1)/\∀e∈fD k os xs,k<=e.1
 |k,[],_=>by simp[fD]
 |k,o::os,[]=>by simp[fD]
 |k,o::os,x::xs=>by
  have ih:=Dg (k+1) os xs;refine⟨List.pairwise_cons.2 ⟨λe he=>by have:=ih.2 e he;simp;omega,ih.1⟩,λe he=>?_⟩;rcases List.mem_cons.1 he with rfl|he
  .simp
  have:=ih.2 e he;omega
def tq.at {P:Program} {H:List Own} {ops:Array Oper} {Γ0:Env}:∀(os:List Oper) (xs:List AV) (k:Nat) (done:List oB),tq P H ops (fE done++Γ0) os xs->(∀e∈done,e.1<k)->
 os.length=xs.length/\∀i o x,os[i]?=some o->xs[i]?=some x->pn P H ops ((fE (((fD k os xs).reverse++done).filter λe=>decide (e.1<k+i))++Γ0).only (o.looksAt ops)) o x
 |[],[],_,_,_,_=>⟨rfl,λi o x h=>by simp at h⟩
 |o::os,x::xs,k,done,h,hd=>by
  obtain⟨h1,h2⟩:=h;have ih:=tq.at os xs (k+1) ((k,o.dst.getD 0,x)::done) h2 (λe he=>by
   rcases List.mem_cons.1 he with rfl|he
   .simp
   have:=hd e he;omega)
  refine⟨by simp[ih.1],λi o' x' ho hx=>?_⟩;have AL:(fD k (o::os) (x::xs)).reverse++done=(fD (k+1) os xs).reverse++((k,o.dst.getD 0,x)::done):=by simp[fD]
  rw[AL];cases i with
  |zero=>
   simp at ho hx;subst ho hx
   have hf:((fD (k+1) os xs).reverse++((k,o.dst.getD 0,x)::done)).filter (λe=>decide (e.1<k+0))=done:=by
    rw[List.filter_append];have e1:(fD (k+1) os xs).reverse.filter (λe=>decide (e.1<k+0))=[]:=by
     rw[List.filter_eq_nil_iff];intro e he;have:=(Dg (k+1) os xs).2 e (List.mem_reverse.1 he);simp;omega
    rw[e1,List.filter_cons];simp only[Nat.add_zero,Nat.lt_irrefl,decide_false,Bool.false_eq_true,if_false,List.nil_append];rw[List.filter_eq_self];intro e he;simpa using hd e he
   rw[hf];exact h1
  |succ i=>
   have:=ih.2 i o' x' (by simpa using ho) (by simpa using hx)
   rw[show k+(i+1)=k+1+i from by omega]
   exact this
 |[],_::_,_,_,h,_=>h.elim
 |_::_,[],_,_,h,_=>h.elim
def M3:∀(os:List Oper) (xs:List AV) (k:Nat) (Γ:Env),sa Γ os xs=fE (fD k os xs).reverse++Γ
 |[],_,_,_=>by simp[sa,fD,fE]
 |_::_,[],_,_=>by simp[sa,fD,fE]
 |o::os,x::xs,k,Γ=>by
  rw[sa,M3 os xs (k+1)];simp[fD,fE]
section
variable {P:Program} {c:Ctx} {I:Im} {H:List Own} {Γ:Env} {a:Act} {w:World} {Q:Exit->Act->World->Prop}
def filter_lt {α:Type} {p q:α->Bool} {i:α}:∀{l:List α},i∈l->p i=true->q i=false->(∀j,q j=true->p j=true)->(l.filter q).length<(l.filter p).length
 |[],h,_,_,_=>by simp at h
 |x::l,h,hp,hq,GX=>by
  have hle:∀l:List α,(l.filter q).length<=(l.filter p).length:=λl=>by
   induction l with
   |nil=>simp
   |cons y l ih=>
    cases hy:q y
    .cases GY:p y<;>simp[hy,GY]<;>omega
    simp[hy,GX y hy];omega
  rcases List.mem_cons.1 h with rfl|h
  .have:=hle l;simp[hp,hq];omega
  have ih:=filter_lt h hp hq GX;cases hy:q x
  .cases GY:p x<;>simp[hy,GY]<;>omega
  simp[hy,GX x hy];omega
def Dh {listed:Array Bool} {i j:Nat} (hi:i<listed.size) (v:Bool):(listed.setIfInBounds i true).getD j v=if j=i then true else listed.getD j v:=by
 by_cases h:j=i
 .subst h;simp[hi]
 rw[if_neg h,Array.getD_eq_getD_getElem?,Array.getElem?_setIfInBounds_ne (λe=>h e.symm),<-Array.getD_eq_getD_getElem?]
end
def Own.gone:Own:=⟨none,λ_ _=>True,λ_ _ _ _ _ _ _=>trivial⟩
section
variable {base:Nat->Prop} {I:Im} {w:World} {H:List Own}
def cq.push (h:cq base I w H) (hb:base w.heap.size) {o:Obj} {x:Own} (kq:x.eP=some w.heap.size) (hm:eB w I) (ok:x.ok I (w.alloc o)):cq base I (w.alloc o) (H++[x]):=by
 have h':=h.step (Step.alloc hm o);refine⟨λy hy=>?_,?_⟩
 .rcases List.mem_append.1 hy with hy|hy
  .exact h'.all y hy
  obtain rfl:y=x:=by simpa using hy
  refine⟨ok,λb e=>?_⟩;rw[kq] at e;cases e;exact⟨hb,hm.none (Nat.le_refl _),by simp⟩
 rw[List.filterMap_append,List.nodup_append];refine⟨h'.nodup,by simp[kq],λb wD b' ah=>?_⟩;obtain⟨y,hy,e⟩:=List.mem_filterMap.1 wD;have:=((h.all y hy).2 b e).2.2;simp[kq] at ah;omega
def tu {x:Own} {k:Nat} (hd:(H.filterMap Own.eP).Nodup) (hx:∀b,x.eP=some b->(∃y,H[k]?=some y/\y.eP=some b)\/∀y∈H,y.eP≠some b):
 ((H.set k x).filterMap Own.eP).Nodup:=by
 induction H generalizing k with
 |nil=>simp
 |cons z H ih=>
  cases k with
  |zero=>
   simp only[List.set_cons_zero]
   cases hb:x.eP with
   |none=>
    rw[List.filterMap_cons,hb]
    rw[List.filterMap_cons] at hd
    cases hz:z.eP with
    |none=>rw[hz] at hd;exact hd
    |some c=>rw[hz] at hd;exact(List.nodup_cons.1 hd).2
   |some b=>
    rw[List.filterMap_cons,hb]
    have jX:(H.filterMap Own.eP).Nodup:=by
     rw[List.filterMap_cons] at hd;cases hz:z.eP with
     |none=>rw[hz] at hd;exact hd
     |some c=>rw[hz] at hd;exact(List.nodup_cons.1 hd).2
    refine List.nodup_cons.2 ⟨λhm=>?_,jX⟩
    obtain⟨y,hy,e⟩:=List.mem_filterMap.1 hm
    rcases hx b hb with⟨y',h1,h2⟩|h
    .simp at h1;subst h1
     rw[List.filterMap_cons,h2] at hd
     exact(List.nodup_cons.1 hd).1 (List.mem_filterMap.2 ⟨y,hy,e⟩)
    exact h y (by simp[hy]) e
  |succ k=>
   simp only[List.set_cons_succ]
   rw[List.filterMap_cons] at hd⊢
   cases hz:z.eP with
   |none=>
    rw[hz] at hd
    refine ih hd λb hb=>?_
    rcases hx b hb with⟨y,h1,h2⟩|h
    .exact .inl ⟨y,by simpa using h1,h2⟩
    exact .inr λy hy=>h y (by simp[hy])
   |some c=>
    rw[hz] at hd
    obtain⟨h1,h2⟩:=List.nodup_cons.1 hd
    refine List.nodup_cons.2 ⟨λhm=>?_,ih h2 λb hb=>?_⟩
    .obtain⟨y,hy,e⟩:=List.mem_filterMap.1 hm
     rcases List.mem_or_eq_of_mem_set hy with hy|rfl
     .exact h1 (List.mem_filterMap.2 ⟨y,hy,e⟩)
     rcases hx c e with⟨y',h3,h4⟩|h
     .exact h1 (List.mem_filterMap.2 ⟨y',List.mem_of_getElem? (by simpa using h3),h4⟩)
     exact h z bk hz
    rcases hx b hb with⟨y,h3,h4⟩|h
    .exact .inl ⟨y,by simpa using h3,h4⟩
    exact .inr λy hy=>h y (by simp[hy])
def cq.write {w':World} {k:Nat} {x x':Own} (h:cq base I w H) (hk:H[k]?=some x) (kq:x'.eP=x.eP) (V8:w'.heap.size=w.heap.size)
 (hw:∀b,some b≠x.eP->w'.heap[b]?=w.heap[b]?) (ok:x'.ok I w'):cq base I w' (H.set k x'):=by
 have mg:k<H.length:=(List.getElem?_eq_some_iff.1 hk).1;refine⟨λy hy=>?_,tu h.nodup λb hb=>.inl ⟨x,hk,by rw[<-kq];exact hb⟩⟩;rw[List.mem_iff_getElem?] at hy;obtain⟨i,hi⟩:=hy;by_cases wE:i=k
 .subst wE;rw[List.getElem?_set_self mg] at hi;cases hi;obtain⟨_,h2⟩:=h.all x (List.mem_of_getElem? hk);exact⟨ok,λb hb=>by obtain⟨a1,a2,a3⟩:=h2 b (by rw[<-kq];exact hb);exact⟨a1,a2,by omega⟩⟩
 rw[List.getElem?_set_ne (λe=>wE e.symm)] at hi;obtain⟨h1,h2⟩:=h.all y (List.mem_of_getElem? hi);refine⟨y.fe I I w w' (Im.le_refl I) (λb hb=>hw b λe=>?_) h1,λb hb=>by obtain⟨a1,a2,a3⟩:=h2 b hb;exact⟨a1,a2,by omega⟩⟩;have cR:=h.nodup;have aX:∀(L:List Own) (i k:Nat),(L.filterMap Own.eP).Nodup->i≠k->L[i]?=some y->L[k]?=some x->False:=by
  intro L;induction L with
  |nil=>intro i k _ _ hi;simp at hi
  |cons z L ih=>
   intro i k cR aX hi hk
   cases i with
   |zero=>
    cases k with
    |zero=>exact aX rfl
    |succ k=>
     simp at hi hk;subst hi
     rw[List.filterMap_cons,hb] at cR
     exact(List.nodup_cons.1 cR).1 (List.mem_filterMap.2 ⟨x,List.mem_of_getElem? hk,e.symm⟩)
   |succ i=>
    cases k with
    |zero=>
     simp at hi hk;subst hk
     rw[List.filterMap_cons,<-e] at cR
     exact(List.nodup_cons.1 cR).1 (List.mem_filterMap.2 ⟨y,List.mem_of_getElem? hi,hb⟩)
    |succ k=>
     refine ih i k ?_ om (by simpa using hi) (by simpa using hk)
     rw[List.filterMap_cons] at cR
     cases hz:z.eP with
     |none=>rw[hz] at cR;exact cR
     |some c=>rw[hz] at cR;exact(List.nodup_cons.1 cR).2
 exact aX H i k cR wE hi hk
def fV.write {c:Ctx} {w':World} {b:Nat} (U:fV c.F c.I c.W I w) (hb:c.own b) (hI:I b=none) (V8:w'.heap.size=w.heap.size)
 (V9:w'.os=w.os) (Wa:w'.tape=w.tape) (Wb:w'.output=w.output) (hw:∀k,k≠b->w'.heap[k]?=w.heap[k]?):fV c.F c.I c.W I w':=
 ⟨U.le,U.cU,λk cs e=>by
  obtain⟨T,fr,hh⟩:=U.dz k cs e;exact⟨T,fr,by rw[hw k (λh=>by subst h;rw[hI] at e;cases e)];exact hh⟩,
  ⟨V9.trans U.below.os,Wa.trans U.below.tape,Wb.trans U.below.output,by have:=U.below.size;omega,λk hk hf=>(hw k (λe=>by subst e;rcases hb with h|h;exact absurd h om;exact hf h)).trans (U.below.block k hk hf)⟩⟩
end
section
variable {P:Program} {c:Ctx} {I:Im} {H:List Own} {Γ:Env} {a:Act} {w:World} {Q:Exit->Act->World->Prop} {ops:Array Oper} {rest:List Oper}
variable {d:Nat} {y z:Operand} {ty T T' E:TypeId} {p:String} {af:Array Edge} {g:Bool} {gd:Option (Nat×Bool)} {n m:Nat} {zv:Value}
def St.nO {I':Im} {w':World} {H':List Own} (U:St c I H Γ a w) (be:fV c.F c.I c.W I' w') (hle:Im.le I I') (ho:cq c.own I' w' H') {d:Nat} (hd:Nat.blt d c.n=true) {x:AV} {v:Value} (hx:x.h I' v):
 St c I' H' ((d,x)::Γ) (a.put (some d) v) w':=
 ⟨be,ho,(U.env.up hle).put (by rw[U.size];simpa using hd) hx,by simp[Act.put,U.size],U.defers⟩
def AM {w:World} {T:TypeId} {v:Value}:(newVar T v).run P w=.ok ⟨w.heap.size,0,none⟩ (w.alloc (.cells v.cells T)):=by
 rfl
def Wc {d:Option Tmp} {l:List AV} (h:At Γ g y (.agg l)):Ok P H Γ g ⟨d,.box T y,ty,p,af,gd⟩ (.ptr l):=
 λbase I a w K Q he hm hw hg k=>by
  obtain⟨cs,e,hl⟩:=h I a he hg;unfold Oper.wp;simp only[execOp,Instr.box,e,Sem.run_bind,AM,Result.andThen_ok,Sem.run_pure,Value.cells,Oper.upon_value];refine k _ _ _ ⟨⟨w.heap.size,0,none⟩,rfl,rfl,cs,by simp[Im.add],?_⟩ (Step.Az hm cs T (0,0));have:=(hl.up (Im.Ay (cs:=cs) (hm.none (Nat.le_refl _))));refine this.cast rfl ?_;have hlen:=this.length;simp only[List.drop_zero];rw[List.take_of_length_le om]
def AN {v:Value} (h:v.oneCell'=true):v.cells=#[v]:=by
 cases v<;>simp_all[Value.cells,Value.oneCell']
def AV.One (x:AV):Prop:=∀I v,x.h I v->v.oneCell'=true
def lG {v:Value} (h:v.oneCell'=true):(AV.val v).One:=λ_ _ e=>by rw[show _=v from e];exact h
def lQ {s:Nat} {l:List (List AV)}:(AV.rows s l).One:=λ_ _ ⟨_,_,e,_⟩=>by rw[e];rfl
def lR {l:List AV}:(AV.ptr l).One:=λ_ _ ⟨_,e,_⟩=>by rw[e];rfl
def yr {d:Option Tmp} {x:AV} (h:At Γ g y x) (hx:x.One):Ok P H Γ g ⟨d,.box T y,ty,p,af,gd⟩ (.ptr [x]):=
 λbase I a w K Q he hm hw hg k=>by
  have e:=h I a he hg;unfold Oper.wp;simp only[execOp,Instr.box,Sem.run_bind,AM,Result.andThen_ok,Sem.run_pure,AN (hx _ _ e),Oper.upon_value];refine k _ _ _ ⟨⟨w.heap.size,0,none⟩,rfl,rfl,#[a.eval y],by simp[Im.add],?_⟩ (Step.Az hm _ T (0,0));simp only[List.drop_zero,List.length_cons,List.length_nil];exact⟨⟨x.up _ _ _ (Im.Ay (hm.none (Nat.le_refl _))) e,hx _ _ e⟩,trivial⟩
def St.alloc {l:List AV} {ag:Bool} (U:St c I H Γ a w) (hd:Nat.blt d c.n=true) (hT:Ty P T ag n m zv) (hz:∀I,bO I l zv.cells.toList)
 (k:∀b I a' w',St c I (H++[Own.box b T l]) ((d,.val (.pointer (some ⟨b,0,none⟩)))::Γ) a' w'->wpList P ops Q rest a' w'):
 wpList P ops Q (⟨some d,.alloc T,ty,p,af,none⟩::rest) a w:=by
 unfold wpList;rw[if_pos (by simp[Region.wanted])];left;unfold Oper.wp;have AO:(zeroValue T).run P w=.ok zv w:=hT.zero;simp only[execOp,Instr.alloc,Sem.run_bind,AO,Result.andThen_ok,AM,Sem.run_pure,Oper.upon_value];refine k w.heap.size I _ _ (U.nO (U.step.trans (Step.alloc U.step.dz _)) (Im.le_refl _) (U.own.push (x:=Own.box w.heap.size T l) U.room rfl U.step.dz ⟨_,uN w _,hz I⟩) hd rfl)
def St.box {l:List AV} (U:St c I H Γ a w) (hd:Nat.blt d c.n=true) (h:At Γ true y (.agg l))
 (k:∀b I a' w',St c I (H++[Own.box b T l]) ((d,.val (.pointer (some ⟨b,0,none⟩)))::Γ) a' w'->wpList P ops Q rest a' w'):
 wpList P ops Q (⟨some d,.box T y,ty,p,af,none⟩::rest) a w:=by
 unfold wpList;rw[if_pos (by simp[Region.wanted])];left;obtain⟨cs,e,hl⟩:=h I a U.env rfl;unfold Oper.wp;simp only[execOp,Instr.box,e,Sem.run_bind,AM,Result.andThen_ok,Sem.run_pure,Value.cells,Oper.upon_value];exact k w.heap.size I _ _ (U.nO (U.step.trans (Step.alloc U.step.dz _)) (Im.le_refl _) (U.own.push (x:=Own.box w.heap.size T l) U.room rfl U.step.dz ⟨_,uN w _,hl⟩) hd rfl)
def fO {α:Type} (l:List α) (q:Nat) (x:List α):List α:=l.take q++x++l.drop (q+x.length)
def M4 {w:World} {ag:Bool} (hT:Ty P T ag n m zv) {b q:Nat} {cs:Array Value} {v:Value} (hb:w.heap[b]?=some (.cells cs T' (0,0))) (hv:v.cells.size=n) (hq:q+n<=cs.size) (h1:∀u∈v.cells.toList,u.oneCell'=true):
 (storeVar T ⟨b,q,none⟩ v).run P w=.ok () (w.setRow b (fO cs.toList q v.cells.toList).toArray):=by
 have cT:(sizeOf T).run P w=.ok n w:=hT.size;have be:=run_storeCells_at P b q T' v.cells.toList 0 cs w hb gQ h1;simp only[Nat.add_zero] at be;simp only[storeVar,Sem.run_bind,cT,Result.andThen_ok,hv,ne_eq,not_true_eq_false,if_false,be];simp[fO]
def yt {w w':World} {v:Value} {b q:Nat} {K:Act->World->Prop} {Q:Exit->Act->World->Prop} (hy:a.eval y=.pointer (some ⟨b,q,none⟩)) (hz:a.eval z=v)
 (hr:(storeVar T ⟨b,q,none⟩ v).run P w=.ok () w') (k:K a w'):(⟨none,.store T y z,ty,p,af,gd⟩:Oper).wp P a w K Q:=by
 unfold Oper.wp;simp only[execOp,Instr.storeAt,hy,hz,Instr.sureAddr,Sem.run_bind,Sem.run_pure,Result.andThen_ok,hr,Oper.upon_skip];exact k
def St.written {H':List Own} {w':World} (U:St c I H Γ a w) (be:fV c.F c.I c.W I w') (ho:cq c.own I w' H'):St c I H' Γ a w':=
 ⟨be,ho,U.env,U.size,U.defers⟩
def St.Di {ag:Bool} {b q:Nat} {l lx:List AV} {v:Value} (k:Nat) (U:St c I H Γ a w) (hT:Ty P T ag n m zv) (hk:H[k]?=some (Own.box b T' l)) (hv:bO I lx v.cells.toList) (hn:lx.length=n) (hq:Nat.ble (q+n) l.length=true):
 ∃w',(storeVar T ⟨b,q,none⟩ v).run P w=.ok () w'/\St c I (H.set k (Own.box b T' (fO l q lx))) Γ a w':=by
 obtain⟨⟨cs,hb,hl⟩,h2⟩:=U.own.all _ (List.mem_of_getElem? hk);obtain⟨wF,tv,tw⟩:=h2 b rfl;have hlen:=hl.length;have po:=hv.length;have M5:q+n<=l.length:=Nat.le_of_ble_eq_true hq;have cT:cs.size=l.length:=by simpa using hlen
 have hr:=M4 (P:=P) hT (q:=q) (v:=v) hb (by simp at po;omega) om hv.one;refine⟨_,hr,U.written (U.step.write wF tv bk rfl rfl rfl λk' fC=>setRow_other w b k' _ fC) (U.own.write hk rfl bk (λk' fC=>setRow_other w b k' _ λe=>fC (by rw[e];rfl)) ⟨_,setRow_heap w b cs _ T' _ hb,?_⟩)⟩;have yu:lx.length=v.cells.toList.length:=po.symm;simp only[fO,yu];exact((hl.take q).append hv).append (hl.drop (q+v.cells.toList.length))
end
section
variable {P:Program} {c:Ctx} {I:Im} {H:List Own} {Γ:Env} {a:Act} {w:World} {Q:Exit->Act->World->Prop} {ops:Array Oper} {rest:List Oper}
variable {d:Nat} {y z:Operand} {ty T T' E:TypeId} {p:String} {af:Array Edge} {g:Bool} {gd:Option (Nat×Bool)} {n m:Nat} {zv:Value}
def jM {o:Oper} (hg:o.guard=none) (h:o.wp P a w (wpList P ops Q rest) Q):wpList P ops Q (o::rest) a w:=by
 unfold wpList;rw[if_pos (by simp[Region.wanted,hg])];exact .inl h
def M6 {α:Type} {l:List α} {q:Nat} {x:α} (h:q<l.length):fO l q [x]=l.set q x:=by
 rw[List.set_eq_take_append_cons_drop,if_pos h];simp[fO]
def St.GZ {b q:Nat} {l:List AV} {x:AV} (k:Nat) (U:St c I H Γ a w) (hT:Ty P T false 1 m zv) (hy:At Γ true y (.val (.pointer (some ⟨b,q,none⟩)))) (hz:At Γ true z x) (hx:x.One)
 (hk:H[k]?=some (Own.box b T' l)) (hq:Nat.ble (q+1) l.length=true)
 (kk:∀a' w',St c I (H.set k (Own.box b T' (l.set q x))) Γ a' w'->wpList P ops Q rest a' w'):
 wpList P ops Q (⟨none,.store T y z,ty,p,af,none⟩::rest) a w:=by
 have hv:=hz I a U.env rfl;have hc:=AN (hx _ _ hv);obtain⟨w',hr,cA⟩:=U.Di (q:=q) (lx:=[x]) (v:=a.eval z) k hT hk (by rw[hc];exact⟨⟨hv,hx _ _ hv⟩,trivial⟩) rfl hq;rw[M6 (Nat.le_of_ble_eq_true hq)] at cA;exact jM rfl (yt (hy I a U.env rfl) rfl hr (kk _ _ cA))
def St.se {b q:Nat} {l lx:List AV} (k:Nat) (U:St c I H Γ a w) (hT:Ty P T true n m zv) (hy:At Γ true y (.val (.pointer (some ⟨b,q,none⟩)))) (hz:At Γ true z (.agg lx))
 (hk:H[k]?=some (Own.box b T' l)) (hn:lx.length=n) (hq:Nat.ble (q+n) l.length=true)
 (kk:∀a' w',St c I (H.set k (Own.box b T' (fO l q lx))) Γ a' w'->wpList P ops Q rest a' w'):
 wpList P ops Q (⟨none,.store T y z,ty,p,af,none⟩::rest) a w:=by
 obtain⟨cs,hv,hl⟩:=hz I a U.env rfl;obtain⟨w',hr,cA⟩:=U.Di (q:=q) (lx:=lx) (v:=a.eval z) k hT hk (by rw[hv];exact hl) hn hq;exact jM rfl (yt (hy I a U.env rfl) rfl hr (kk _ _ cA))
def St.M7 {b:Nat} {l lx:List AV} (k:Nat) (U:St c I H Γ a w) (hT:Ty P T true n m zv) (hy:At Γ true y (.val (.pointer (some ⟨b,0,none⟩)))) (hz:At Γ true z (.agg lx))
 (hk:H[k]?=some (Own.box b T' l)) (hn:lx.length=n) (hl:l.length=n)
 (kk:∀a' w',St c I (H.set k (Own.box b T' lx)) Γ a' w'->wpList P ops Q rest a' w'):
 wpList P ops Q (⟨none,.store T y z,ty,p,af,none⟩::rest) a w:=
 U.se k hT hy hz hk hn (by rw[hl];simp) λa' w' h=>kk a' w' (by
  have e:fO l 0 lx=lx:=by simp[fO];omega
  rwa[e] at h)
def St.hP {sz:Nat} (U:St c I H Γ a w) (T:TypeId):St c I (H++[Own.row (.slice none 0 0) T sz []]) Γ a w:=
 ⟨U.step,⟨λy hy=>by
  rcases List.mem_append.1 hy with hy|hy
  .exact U.own.all y hy
  .obtain rfl:=by simpa using hy
   exact⟨⟨λr hr=>by simp at hr,.inl ⟨rfl,.inl rfl⟩⟩,λb e=>by simp[Own.row,nM] at e⟩,
  by rw[List.filterMap_append];simpa[Own.row,nM] using U.own.nodup⟩,U.env,U.size,U.defers⟩
def M8 {v:Value} (h:wz v):nM v=none:=by
 rcases h with rfl|⟨q,rfl,_⟩<;>simp[nM]
def St.Dj {v:Value} {sz:Nat} (U:St c I H Γ a w) (T:TypeId) (hv:wz v):St c I (H++[Own.row v T sz []]) Γ a w:=
 ⟨U.step,⟨λy hy=>by
  rcases List.mem_append.1 hy with hy|hy
  .exact U.own.all y hy
  .obtain rfl:=by simpa using hy
   exact⟨⟨λr hr=>by simp at hr,.inl ⟨rfl,hv⟩⟩,λb e=>by rw[show(Own.row v T sz []).eP=nM v from rfl,M8 hv] at e;cases e⟩,
  by rw[List.filterMap_append]
     have:([Own.row v T sz []]:List Own).filterMap Own.eP=[]:=by
      rw[List.filterMap_cons,show(Own.row v T sz []).eP=nM v from rfl,M8 hv];rfl
     rw[this,List.append_nil];exact U.own.nodup⟩,U.env,U.size,U.defers⟩
def hZ {α:Type} {sz:Nat}:∀{l:List (List α)},(∀r∈l,r.length=sz)->l.flatten.length=l.length*sz
 |[],_=>by simp
 |x::l,h=>by
  rw[List.flatten_cons,List.length_append,h x bk,hZ (λr hr=>h r (by simp[hr])),List.length_cons,Nat.succ_mul,Nat.add_comm]
def AP (w:World) (E:TypeId) (sz:Nat) (v:Value) (k:Nat) (xs:List Value):Prop:=
 xs.length=k*sz/\((k=0/\wz v)\/∃b cap cur,v=.slice (some ⟨b,0,none⟩) k cap/\0<cap/\w.heap[b]?=some (.cells cur E (0,0))/\k<=cap/\cap<=maxLen/\cur.size=cap*sz/\cur.toList.take (k*sz)=xs)
def Wd {v:Value} {i:TypeInfo} {sz k mm:Nat} {xs:List Value} (hU:P.underlying T=some (.slice E)) (hi:P.info? E=some i) (hz:i.zero=some zv) (h1:i.size=sz) (h2:i.bytes=m) (gR:zv.cells.size=sz)
 (eG:AP w E sz v k xs) (ad:Addr) (cp:Nat) (cs:List Value) (hl:cs.length=mm*sz) (hc:∀j u,cs[j]?=some u->w.cell? (ad.add j)=some u) (Dk:∀u∈cs,u.oneCell'=true)
 (wG:k+mm<=maxLen) (hb:(k+mm)*m<=140737488355328):
 ∃v' w',(Builtin.append_ #[T,T] ty #[v,.slice (some ad) mm cp]).run P w=.ok v' w'/\AP w' E sz v' (k+mm) (xs++cs)/\
  ((v'=v/\w'=w)\/(∃g cap pq cur,v=.slice (some ⟨g,0,none⟩) k cap/\0<cap/\v'=.slice (some ⟨g,0,none⟩) (k+mm) pq/\0<pq/\w'=w.setRow g cur)\/
   ∃pq cur,v'=.slice (some ⟨w.heap.size,0,none⟩) (k+mm) pq/\0<pq/\w'=w.drew.alloc (.cells cur E)):=by
 subst h1 h2;have alu:k+mm<=9223372036854775807:=by simp only[maxLen] at wG;omega
 have mJ:=eG.1;have hlen:(xs++cs).length=(k+mm)*i.size:=by rw[List.length_append,mJ,hl,Nat.add_mul]
 have fresh:∀cU,0<k+mm->AP (w.drew.alloc (.cells (xs.toArray++cs.toArray++Builtin.zeroCells zv.cells (grownCap w (k+mm) cU E-(k+mm))) E)) E i.size
  (.slice (some ⟨w.heap.size,0,none⟩) (k+mm) (grownCap w (k+mm) cU E)) (k+mm) (xs++cs):=λcU mK=>by
  have sf:=grownCap_ge w (k+mm) cU E;refine⟨hlen,.inr ⟨w.heap.size,_,_,rfl,by omega,uN w.drew _,sf,grownCap_le_maxLen w (k+mm) cU E wG,?_,?_⟩⟩
  .have e1:=size_zeroCells zv.cells (grownCap w (k+mm) cU E-(k+mm));rw[Array.size_append,Array.size_append,e1,gR];simp only[List.size_toArray,mJ,hl,<-Nat.add_mul];congr 1;omega
  simp only[Array.toList_append,List.append_assoc];rw[<-List.append_assoc,<-hlen];exact List.take_left
 have G0:∀cU,0<k+mm->0<grownCap w (k+mm) cU E:=λcU h=>by have:=grownCap_ge w (k+mm) cU E;omega
 rcases eG.2 with⟨rfl,tx⟩|⟨g,cap,cur,rfl,G1,hg,M9,AQ,jY,Na⟩
 .obtain rfl:xs=[]:=List.eq_nil_of_length_eq_zero (by simpa using mJ);rcases Nat.eq_zero_or_pos mm with rfl|mK
  .obtain rfl:cs=[]:=List.eq_nil_of_length_eq_zero (by simpa using hl);refine⟨v,w,?_,⟨by simp,.inl ⟨rfl,tx⟩⟩,.inl ⟨rfl,rfl⟩⟩;rcases tx with rfl|⟨q,rfl,_⟩
   .simp[Builtin.append_,run_underlying hU,sizeOf,typeInfo,hi,Builtin.lenOf,Builtin.firstCells,loadCells,loadCellsFrom]
   simp[Builtin.append_,run_underlying hU,sizeOf,typeInfo,hi,Builtin.lenOf,Builtin.firstCells,loadCells,loadCellsFrom,storeCells]
  rcases tx with rfl|⟨q,rfl,_⟩
  .have hr:=run_append_nil (P:=P) w T ty E i zv hU hi hz ad mm cp cs hl hc mK om (by simp only[Nat.zero_add] at hb;omega);have hf:=fresh 0 om;have Nb:=G0 0 om;simp only[Nat.zero_add,List.nil_append,Array.empty_append] at hf Nb⊢;exact⟨_,_,hr,hf,.inr (.inr ⟨_,_,rfl,Nb,rfl⟩)⟩
  have hr:=run_append_grow (P:=P) w T ty E i zv hU hi hz q 0 0 [] bk (λj u h=>by simp at h) ad mm cp cs hl hc om om (growslice_fits om hb);exact⟨_,_,hr,fresh 0 om,.inr (.inr ⟨_,_,rfl,G0 0 om,rfl⟩)⟩
 by_cases AR:k+mm<=cap
 .have iO:k*i.size+cs.length<=cur.size:=by rw[hl,jY,<-Nat.add_mul];exact Nat.mul_le_mul_right _ AR
  have hr:=run_append_room (P:=P) w T ty E i hU hi g k cap cur hg ad mm cp cs hl hc Dk AR iO;refine⟨_,_,hr,⟨hlen,.inr ⟨g,cap,_,rfl,G1,setRow_heap w g cur _ E _ hg,AR,AQ,?_,?_⟩⟩,.inr (.inl ⟨g,cap,cap,_,rfl,G1,rfl,G1,rfl⟩)⟩
  .simp only[List.size_toArray,List.length_append,List.length_take,List.length_drop,Array.length_toList];omega
  rw[Na,<-hlen];exact List.take_left
 have holds:∀j u,xs[j]?=some u->w.cell? ((⟨g,0,none⟩:Addr).add j)=some u:=λj u hu=>by
  rw[add_plain];simp only[World.cell?,hg,Option.isSome_none,Bool.false_eq_true,if_false];rw[<-Na,List.getElem?_take] at hu;split at hu
  .simpa using hu
  cases hu
 have hr:=run_append_grow (P:=P) w T ty E i zv hU hi hz ⟨g,0,none⟩ k cap xs mJ holds ad mm cp cs hl hc om om (growslice_fits om hb);exact⟨_,_,hr,fresh cap om,.inr (.inr ⟨_,_,rfl,G0 cap om,rfl⟩)⟩
def We {I:Im} {w:World} {E:TypeId} {sz:Nat} {v:Value} {l:List (List AV)} (h:(Own.row v E sz l).ok I w):∃xs,AP w E sz v l.length xs/\bO I l.flatten xs:=by
 obtain⟨cT,⟨rfl,hb⟩|⟨b,cap,cur,e,h0,h1,h2,h3,h4,h5⟩⟩:=h
 .exact⟨[],⟨by simp,.inl ⟨rfl,hb⟩⟩,trivial⟩
 exact⟨_,⟨by rw[h5.length,hZ cT],.inr ⟨b,cap,cur,e,h0,h1,h2,h3,h4,rfl⟩⟩,h5⟩
def Wf {I:Im} {w:World} {E:TypeId} {sz:Nat} {v:Value} {l:List (List AV)} {xs:List Value} (cT:∀r∈l,r.length=sz) (h:AP w E sz v l.length xs) (hx:bO I l.flatten xs):(Own.row v E sz l).ok I w:=by
 obtain⟨_,⟨h0,hb⟩|⟨b,cap,cur,e,h0,h1,h2,h3,h4,rfl⟩⟩:=h
 .exact⟨cT,.inl ⟨List.eq_nil_of_length_eq_zero h0,hb⟩⟩
 exact⟨cT,.inr ⟨b,cap,cur,e,h0,h1,h2,h3,h4,hx⟩⟩
def cq.renew {base:Nat->Prop} {w':World} {k:Nat} {x x':Own} (h:cq base I w H) (hm:eB w I) (hb:base w.heap.size) (hk:H[k]?=some x) (kq:x'.eP=some w.heap.size)
 (be:Step I w I w') (bw:w.heap.size<w'.heap.size) (ok:x'.ok I w'):cq base I w' (H.set k x'):=by
 have h':=h.step be;refine⟨λy hy=>?_,tu h.nodup λb e=>.inr λy hy e'=>?_⟩
 .rcases List.mem_or_eq_of_mem_set hy with hy|rfl
  .exact h'.all y hy
  exact⟨ok,λb e=>by rw[kq] at e;cases e;exact⟨hb,hm.none (Nat.le_refl _),bw⟩⟩
 rw[kq] at e;cases e;have:=((h.all y hy).2 _ e').2.2;omega
def Step.Nc {w:World} {I:Im} (h:eB w I) (o:Obj):Step I w I (w.drew.alloc o):=
 ⟨Im.le_refl _,λ_ _=>rfl,eB.alloc (w:=w.drew) h o,((Below.refl w.heap.size w).drew).alloc (Nat.le_refl _) _⟩
def St.Dl {v:Value} {sz:Nat} {l l2:List (List AV)} {x:Value} {ag:Bool} (k:Nat) (U:St c I H Γ a w) (hU:P.underlying T=some (.slice E)) (hE:Ty P E ag sz m zv) (gR:zv.cells.size=sz)
 (hk:H[k]?=some (Own.row v E sz l)) (hx:(AV.rows sz l2).h I x) (hb:(l.length+l2.length)*m<=140737488355328) (wG:l.length+l2.length<=maxLen):
 ∃v' w',(Builtin.append_ #[T,T] ty #[v,x]).run P w=.ok v' w'/\St c I (H.set k (Own.row v' E sz (l++l2))) Γ a w':=by
 obtain⟨mG,h2⟩:=U.own.all _ (List.mem_of_getElem? hk);have Wg:=mG.1;obtain⟨xs,eG,hl⟩:=We mG;obtain⟨q,cap,e,g1,g2,g3,g4,g5⟩:=hx;obtain⟨i,hi,uP,ji,yv⟩:=hE.get;have mg:k<H.length:=(List.getElem?_eq_some_iff.1 hk).1;have sg:H.set k (Own.row v E sz l)=H:=by
  rw[List.getElem?_eq_getElem mg] at hk;have fC:H[k]=Own.row v E sz l:=by simpa using hk
  rw[<-fC];exact List.set_getElem_self mg
 cases q with
 |none=>
  have r9:l2=[]:=g4.resolve_right (λ⟨_,h,_⟩=>by cases h)
  subst r9
  have nh:=g5 rfl
  subst nh
  refine⟨v,w,?_,?_⟩
  .rw[e]
   rcases eG.2 with⟨h0,rfl|⟨q,rfl,_⟩⟩|⟨b,cap,cur,rfl,_,_,M9,_⟩
   .simp[Builtin.append_,run_underlying hU,sizeOf,typeInfo,hi,Builtin.lenOf,Builtin.firstCells]
   .simp[Builtin.append_,run_underlying hU,sizeOf,typeInfo,hi,Builtin.lenOf,Builtin.firstCells,storeCells]
   simp[Builtin.append_,run_underlying hU,sizeOf,typeInfo,hi,Builtin.lenOf,Builtin.firstCells,storeCells,M9]
  rw[List.append_nil,sg];exact U
 |some q=>
  have Wh:∃cs:List Value,bO I l2.flatten cs/\∀j u,cs[j]?=some u->w.cell? (q.add j)=some u:=by
   rcases g4 with rfl|⟨q,hq,kk⟩
   .exact⟨[],trivial,λj u h=>by simp at h⟩
   cases hq;obtain⟨b,off,s⟩:=q;obtain rfl:s=none:=kk.1;obtain⟨cs,h1,h2,h3⟩:=kk.toArray U.step.dz;exact⟨cs,h2,h3⟩
  obtain⟨cs,jY,yn⟩:=Wh
  have hlen:cs.length=l2.length*sz:=by rw[jY.length,hZ g3]
  obtain⟨v',w',hr,G2,hw⟩:=Wd (P:=P) (ty:=ty) hU hi yv uP ji gR eG q cap cs hlen yn jY.one wG hb
  refine⟨v',w',by rw[e];exact hr,?_⟩
  have an:(Own.row v' E sz (l++l2)).ok I w':=Wf (xs:=xs++cs) (λr hr=>by
   rcases List.mem_append.1 hr with hr|hr
   .exact Wg r hr
   exact g3 r hr) (by rw[List.length_append];exact G2) (by rw[List.flatten_append];exact hl.append jY)
  rcases hw with⟨rfl,rfl⟩|⟨gg,Wi,oC,cur,rfl,kT,rfl,jZ,rfl⟩|⟨oC,cur,rfl,jZ,rfl⟩
  .refine U.written U.step ⟨λy hy=>?_,tu U.own.nodup λb hb=>.inl ⟨_,hk,hb⟩⟩
   rcases List.mem_or_eq_of_mem_set hy with hy|rfl
   .exact U.own.all y hy
   exact⟨an,h2⟩
  .have ae:nM (.slice (some ⟨gg,0,none⟩) l.length Wi)=some gg:=AA om
   have ah:∀n,nM (.slice (some ⟨gg,0,none⟩) n oC)=some gg:=λn=>AA om
   obtain⟨k1,k2,k3⟩:=h2 gg ae
   exact U.written (U.step.write k1 k2 bk rfl rfl rfl λk' fC=>setRow_other w gg k' _ fC) (U.own.write hk (by rw[yl,yl,ae,ah]) bk (λk' fC=>setRow_other w gg k' _ λe=>fC (by rw[e];exact ae.symm)) an)
  have st:=Step.Nc U.step.dz (.cells cur E)
  exact U.written (U.step.trans st) (U.own.renew U.step.dz U.room hk (AB om) st bk an)
def St.append {v:Value} {sz:Nat} {l l2:List (List AV)} {ag:Bool} (k:Nat) (U:St c I H Γ a w) (hd:Nat.blt d c.n=true) (hU:P.underlying T=some (.slice E)) (hE:Ty P E ag sz m zv) (gR:zv.cells.size=sz)
 (hy:At Γ true y (.val v)) (hz:At Γ true z (.rows sz l2)) (hk:H[k]?=some (Own.row v E sz l)) (hb:(l.length+l2.length)*m<=140737488355328/\l.length+l2.length<=140737488355328)
 (kk:∀v' a' w',St c I (H.set k (Own.row v' E sz (l++l2))) ((d,.val v')::Γ) a' w'->wpList P ops Q rest a' w'):
 wpList P ops Q (⟨some d,.call ⟨.builtin .append,#[y,z],#[T,T]⟩,ty,p,af,none⟩::rest) a w:=by
 obtain⟨v',w',hr,cA⟩:=U.Dl (ty:=ty) k hU hE gR hk (hz I a U.env rfl) hb.1 (by simp only[maxLen];omega);refine jM rfl ?_;have e1:a.eval y=v:=hy I a U.env rfl;unfold Oper.wp;simp only[execOp,resolve,invoke,builtin,Sem.run_bind,Sem.run_pure,Result.andThen_ok,List.map_toArray,List.map_cons,List.map_nil,e1,hr];exact kk v' _ _ (cA.nO cA.step (Im.le_refl _) cA.own hd rfl)
end
section
variable {P:Program} {c:Ctx} {I:Im} {H:List Own} {Γ:Env} {a:Act} {w:World} {Q:Exit->Act->World->Prop} {ops:Array Oper} {rest:List Oper}
variable {d:Nat} {y z:Operand} {ty T T' E:TypeId} {p:String} {af:Array Edge} {g:Bool} {gd:Option (Nat×Bool)} {n m:Nat} {zv:Value}
def Wj {I:Im} {z:Array Value} {l:List AV} (h:bO I l z.toList):∀k,bO I (List.replicate k l).flatten (madeCells z (k*z.size)).toList:=by
 intro k;have key:∀k,(madeCells z (k*z.size)).toList=(List.replicate k z.toList).flatten:=by
  intro k;apply List.ext_getElem?;intro j;simp only[madeCells];by_cases hz:z.size=0
  .have:z.toList=[]:=by simpa using hz
   simp[hz,this]
  have kU:(List.replicate k z.toList).flatten.length=k*z.size:=by
   rw[hZ (sz:=z.size) (λr hr=>by rw[(List.mem_replicate.1 hr).2];simp),List.length_replicate]
  by_cases hj:j<k*z.size
  .have hq:j/z.size<k:=Nat.div_lt_of_lt_mul (by rw[Nat.mul_comm];exact hj);have hm:j%z.size<z.size:=Nat.mod_lt _ om;have hr:(List.replicate k z.toList)[j/z.size]?=some z.toList:=by simp[hq]
   have h2:=C8 (List.replicate k z.toList) z.size (λr hr=>by rw[(List.mem_replicate.1 hr).2];simp) _ _ hr;have h3:(List.replicate k z.toList).flatten[j]?=z.toList[j%z.size]?:=by
    have h4:(((List.replicate k z.toList).flatten.drop (j/z.size*z.size)).take z.size)[j%z.size]?=z.toList[j%z.size]?:=by rw[h2]
    rw[List.getElem?_take,if_pos hm,List.getElem?_drop] at h4;rw[<-h4];congr 1;have:=Nat.div_add_mod j z.size;rw[Nat.mul_comm] at this;exact this.symm
   rw[h3];simp[hj,hm]
  have e1:(List.replicate k z.toList).flatten[j]?=none:=by simp only[List.getElem?_eq_none_iff];omega
  rw[e1];simp;omega
 rw[key];induction k with
 |zero=>simp[bO]
 |succ k ih=>
  rw[List.replicate_succ,List.replicate_succ,List.flatten_cons,List.flatten_cons]
  exact h.append ih
def St.make {l:List AV} {sz:Nat} {ag:Bool} {k:Nat} (U:St c I H Γ a w) (hd:Nat.blt d c.n=true) (hU:P.underlying T=some (.slice E)) (hE:Ty P E ag sz m zv) (Nd:∀I,bO I l zv.cells.toList) (gR:zv.cells.size=sz)
 (hy:At Γ true y (.int k)) (hz:At Γ true z (.int k)) (hb:m*k<=281474976710656/\k<=281474976710656)
 (kk:∀b a' w',St c I (H++[Own.row (.slice (some ⟨b,0,none⟩) k k) E sz (List.replicate k l)]) ((d,.val (.slice (some ⟨b,0,none⟩) k k))::Γ) a' w'->wpList P ops Q rest a' w'):
 wpList P ops Q (⟨some d,.makeSlice T y z,ty,p,af,none⟩::rest) a w:=by
 obtain⟨i,hi,h1,h2,h3⟩:=hE.get;have wG:k<=maxLen:=by simp only[maxLen];omega
 have hr:=run_make (P:=P) w T E i zv hU hi h3 .i64 .i64 k k (by omega) (Int.le_refl _) (by rw[h2];have:=hb.1;have:((m*k:Nat):Int)<=281474976710656:=by omega
                                                                                           rwa[Int.natCast_mul] at this) om
 simp only[Int.toNat_natCast] at hr;refine jM rfl ?_;have e1:a.eval y=.int .i64 k:=hy I a U.env rfl;have e2:a.eval z=.int .i64 k:=hz I a U.env rfl;unfold Oper.wp;simp only[execOp,e1,e2,hr,Sem.run_bind,Sem.run_pure,Result.andThen_ok,Oper.upon_value];rw[h1];have hlen:l.length=sz:=by rw[<-gR,<-(Nd I).length];simp
 have hm:=Wj (Nd I) k;rw[gR] at hm;have Wk:∀r∈List.replicate k l,r.length=sz:=λr hr=>by rw[(List.mem_replicate.1 hr).2,hlen]
 have be:=Step.alloc U.step.dz (.cells (madeCells zv.cells (k*sz)) E);refine kk w.heap.size _ _ (U.nO (U.step.trans be) (Im.le_refl _) ?_ hd rfl);rcases Nat.eq_zero_or_pos k with rfl|mK
 .have:=((St.written U (U.step.trans be) (U.own.step be)).Dj (sz:=sz) (v:=.slice (some ⟨w.heap.size,0,none⟩) 0 0) E (.inr ⟨_,rfl,rfl⟩)).own;simpa using this
 refine U.own.push (x:=Own.row (.slice (some ⟨w.heap.size,0,none⟩) k k) E sz (List.replicate k l)) U.room (AB om) U.step.dz ⟨Wk,.inr ⟨w.heap.size,k,_,by rw[List.length_replicate],mK,uN w _,by simp,wG,size_madeCells _ _,?_⟩⟩;rw[List.length_replicate,List.take_of_length_le (by simp[madeCells])];exact hm
def St.shape {v:Value} {sz:Nat} {l:List (List AV)} (k:Nat) (U:St c I H Γ a w) (hk:H[k]?=some (Own.row v E sz l)) (hl:0<l.length):∃b cap,v=.slice (some ⟨b,0,none⟩) l.length cap:=by
 obtain⟨⟨_,⟨h0,_⟩|⟨b,cap,cur,e,_⟩⟩,_⟩:=U.own.all _ (List.mem_of_getElem? hk)
 .subst h0;simp at hl
 exact⟨b,cap,e⟩
def Wl {I:Im} {w:World} {v:Value} {sz:Nat} {l:List (List AV)} (h:(Own.row v E sz l).ok I w):∃q cap,v=.slice q l.length cap:=by
 obtain⟨_,⟨rfl,rfl|⟨q,rfl,_⟩⟩|⟨b,cap,cur,e,_⟩⟩:=h
 .exact⟨none,0,rfl⟩
 .exact⟨some q,0,rfl⟩
 exact⟨_,cap,e⟩
def sh {d:Option Tmp} {v:Value} {sz:Nat} {l:List (List AV)} (k:Nat) (hT:P.underlying T=some (.slice T')) (h:At Γ g y (.val v)) (hk:H[k]?=some (Own.row v E sz l)):Ok P H Γ g ⟨d,.call ⟨.builtin .len,#[y],#[T]⟩,ty,p,af,gd⟩ (.int l.length):=
 im λbase I a w he hm hw hg=>by
  have e:a.eval y=_:=h I a he hg;refine⟨_,?_,rfl⟩;have hv:=Wl (hw.all _ (List.mem_of_getElem? hk)).1;obtain⟨q,cap,rfl⟩:=hv;simp only[execOp,resolve,List.map_toArray,List.map_cons,List.map_nil,e];simp[go_sem,Builtin.len_,run_underlying hT]
def jj {d:Option Tmp} {ag:Bool} {b sz k cap:Nat} {i:Int} (hT:P.underlying T=some (.slice E)) (hE:Ty P E ag sz m zv) (h:At Γ g y (.val (.slice (some ⟨b,0,none⟩) k cap))) (hi:At Γ g z (.int i)) (hb:g=true->0<=i/\i<k):
 Ok P H Γ g ⟨d,.indexAddr T y z,ty,p,af,gd⟩ (.val (.pointer (some ⟨b,i.toNat*sz,none⟩))):=
 iA λI a w he hg=>by
  obtain⟨h0,h1⟩:=hb hg;have e:a.eval y=_:=h I a he hg;have e2:a.eval z=_:=hi I a he hg;have U:(sizeOf E).run P w=.ok sz w:=hE.size;simp only[execOp,e,e2,Instr.indexAt,asIntOf,Sem.run_bind,Sem.run_pure,Result.andThen_ok,run_underlying hT];simp[h0,h1,add_plain,U]
def Nf {I:Im} {w:World} {sz b cap:Nat} {l:List (List AV)} (h:(Own.row (.slice (some ⟨b,0,none⟩) l.length cap) E sz l).ok I w) (hl:l≠[]):
 ∃cur,0<cap/\w.heap[b]?=some (.cells cur E (0,0))/\l.length<=cap/\cap<=maxLen/\cur.size=cap*sz/\bO I l.flatten (cur.toList.take (l.length*sz)):=by
 obtain⟨_,⟨h0,_⟩|⟨b',pq,cur,e,h0,h1,h2,h3,h4,h5⟩⟩:=h
 .exact absurd h0 hl
 cases e;exact⟨cur,h0,h1,h2,h3,h4,h5⟩
def Dm {k b cap q sz i j:Nat} {l:List (List AV)} {r:List AV} (hk:H[k]?=some (Own.row (.slice (some ⟨b,0,none⟩) l.length cap) E sz l)) {base:Nat->Prop} (hw:cq base I w H) (hr:l[i]?=some r) (hq:q=i*sz+j) (hj:j<=sz):
 ∃cs:List Value,bO I (r.drop j) cs/\cs.length=sz-j/\∀t u,cs[t]?=some u->w.cell? ⟨b,q+t,none⟩=some u:=by
 obtain⟨an,_⟩:=hw.all _ (List.mem_of_getElem? hk);have cT:=an.1;have hi:i<l.length:=(List.getElem?_eq_some_iff.1 hr).1;obtain⟨cur,_,hb,h3,_,h5,hl⟩:=Nf an (λe=>by subst e;simp at hi);have kr:r.length=sz:=cT r (List.mem_of_getElem? hr);have r9:=((hl.drop (i*sz)).take sz).drop j;rw[C8 l sz cT i r hr] at r9;refine⟨_,r9,?_,λt u hu=>?_⟩
 .rw[r9.length,List.length_drop,kr]
 rw[List.getElem?_drop,List.getElem?_take] at hu;split at hu
 .rename_i bw;rw[List.getElem?_drop,List.getElem?_take] at hu;split at hu
  .simp only[World.cell?,hb,Option.isSome_none,Bool.false_eq_true,if_false];rw[hq,<-Array.getElem?_toList,Nat.add_assoc,hu]
  cases hu
 cases hu
def Wm {d:Option Tmp} {b q cap sz i j:Nat} {l:List (List AV)} {r:List AV} {x:AV} (k:Nat) (hT:Ty P T false n m zv) (h:At Γ g y (.val (.pointer (some ⟨b,q,none⟩)))) (hk:H[k]?=some (Own.row (.slice (some ⟨b,0,none⟩) l.length cap) E sz l))
 (hr:g=true->l[i]?=some r) (hq:q=i*sz+j) (hx:r[j]?=some x) (G3:Nat.blt j sz=true):Ok P H Γ g ⟨d,.load T y,ty,p,af,gd⟩ x:=
 im λbase I a w he hm hw hg=>by
  have e:a.eval y=_:=h I a he hg;have hj:j<sz:=by simpa using G3
  obtain⟨cs,h1,h2,h3⟩:=Dm hk hw (hr hg) hq om;obtain⟨u,hu,G4,_⟩:=h1.get (i:=0) (x:=x) (by rw[List.getElem?_drop];simpa using hx);refine⟨u,?_,G4⟩;have hc:w.cell? ⟨b,q,none⟩=some u:=h3 0 u hu;simp only[execOp,e,Instr.loadAt,Instr.sureAddr,Sem.run_bind,Sem.run_pure,Result.andThen_ok,AE hT hc]
def si {d:Option Tmp} {b q cap sz i:Nat} {l:List (List AV)} {r:List AV} (k:Nat) (hT:Ty P T true sz m zv) (h:At Γ g y (.val (.pointer (some ⟨b,q,none⟩)))) (hk:H[k]?=some (Own.row (.slice (some ⟨b,0,none⟩) l.length cap) E sz l))
 (hr:g=true->l[i]?=some r) (hq:q=i*sz):Ok P H Γ g ⟨d,.load T y,ty,p,af,gd⟩ (.agg r):=
 im λbase I a w he hm hw hg=>by
  have e:a.eval y=_:=h I a he hg;obtain⟨cs,h1,h2,h3⟩:=Dm (q:=q) hk hw (hr hg) (j:=0) (by rw[hq];rfl) om;refine⟨.agg cs.toArray,?_,_,rfl,by simpa using h1⟩;have h4:∀t u,cs[t]?=some u->w.cell? ((⟨b,q,none⟩:Addr).add t)=some u:=λt u hu=>by rw[add_plain];exact h3 t u hu
  simp only[execOp,e,Instr.loadAt,Instr.sureAddr,Sem.run_bind,Sem.run_pure,Result.andThen_ok,AF hT om h4]
def Ng {α:Type} {sz:Nat}:∀{l:List (List α)} {i j:Nat} {r x:List α},(∀r∈l,r.length=sz)->l[i]?=some r->j+x.length<=sz->fO l.flatten (i*sz+j) x=(l.set i (fO r j x)).flatten
 |[],_,_,_,_,_,h,_=>by simp at h
 |y::l,0,j,r,x,U,h,hj=>by
  simp at h;subst h;have hy:y.length=sz:=U y bk;simp only[List.set_cons_zero,List.flatten_cons,fO,Nat.zero_mul,Nat.zero_add];rw[List.take_append_of_le_length om,List.drop_append_of_le_length om];simp
 |y::l,i+1,j,r,x,U,h,hj=>by
  have hy:y.length=sz:=U y bk;have ih:=Ng (l:=l) (i:=i) (j:=j) (r:=r) (x:=x) (λr hr=>U r (by simp[hr])) (by simpa using h) hj;rw[List.set_cons_succ,List.flatten_cons,List.flatten_cons,<-ih];simp only[fO];have e1:(i+1)*sz+j=y.length+(i*sz+j):=by rw[hy,Nat.succ_mul];omega
  rw[e1,List.take_append,List.take_of_length_le (Nat.le_add_right _ _),Nat.add_sub_cancel_left,Nat.add_assoc,List.drop_append,List.drop_eq_nil_of_le om];simp[Nat.add_assoc]
def Wn {α:Type} (L x:List α) (q N:Nat) (h:q+x.length<=N) (hL:N<=L.length):(fO L q x).take N=fO (L.take N) q x:=by
 apply List.ext_getElem?;intro t;simp only[fO,List.getElem?_take,List.getElem?_append,List.length_append,List.length_take,List.getElem?_drop];(repeat' split)<;>first|rfl|omega|(congr 1;omega)|skip
def St.Nh {ag:Bool} {b cap q sz i j:Nat} {l:List (List AV)} {r lx:List AV} {v:Value} (k:Nat) (U:St c I H Γ a w) (hT:Ty P T ag n m zv) (hk:H[k]?=some (Own.row (.slice (some ⟨b,0,none⟩) l.length cap) E sz l))
 (hv:bO I lx v.cells.toList) (hn:lx.length=n) (hr:l[i]?=some r) (hq:q=i*sz+j) (hj:j+n<=sz):
 ∃w',(storeVar T ⟨b,q,none⟩ v).run P w=.ok () w'/\St c I (H.set k (Own.row (.slice (some ⟨b,0,none⟩) l.length cap) E sz (l.set i (fO r j lx)))) Γ a w':=by
 obtain⟨an,h2⟩:=U.own.all _ (List.mem_of_getElem? hk);have cT:=an.1;have hi:i<l.length:=(List.getElem?_eq_some_iff.1 hr).1;obtain⟨cur,h0,hb,h3,h4,h5,hl⟩:=Nf an (λe=>by subst e;simp at hi);have kq:(Own.row (.slice (some ⟨b,0,none⟩) l.length cap) E sz l).eP=some b:=AB om;obtain⟨wF,tv,tw⟩:=h2 b kq;have kr:r.length=sz:=cT r (List.mem_of_getElem? hr);have po:=hv.length;have hle:(i+1)*sz<=l.length*sz:=Nat.mul_le_mul_right _ hi;have nh:l.length*sz<=cap*sz:=Nat.mul_le_mul_right _ h3;rw[Nat.succ_mul] at hle;have j0:=M4 (P:=P) hT (q:=q) (v:=v) hb (by simp at po;omega) om hv.one;refine⟨_,j0,U.written (U.step.write wF tv bk rfl rfl rfl λk' fC=>setRow_other w b k' _ fC) (U.own.write hk rfl bk (λk' fC=>setRow_other w b k' _ λe=>fC (by rw[e];exact kq.symm)) ?_)⟩;have Wo:v.cells.toList.length=n:=by omega
 have sj:v.cells.size=n:=by simpa using Wo
 have Wp:q+n<=cur.size:=by omega
 refine⟨λx hx=>?_,.inr ⟨b,cap,_,by rw[List.length_set],h0,setRow_heap w b cur _ E _ hb,by rw[List.length_set];exact h3,h4,?_,?_⟩⟩
 .rcases List.mem_or_eq_of_mem_set hx with hx|rfl
  .exact cT x hx
  simp only[fO,List.length_append,List.length_take,List.length_drop];omega
 .simp only[fO,List.size_toArray,List.length_append,List.length_take,List.length_drop,Array.length_toList];omega
 rw[List.length_set];rw[show((fO cur.toList q v.cells.toList).toArray.toList.take (l.length*sz))=fO (cur.toList.take (l.length*sz)) q v.cells.toList from Wn _ _ _ _ om gQ];rw[<-Ng cT hr om,<-hq];simp only[fO];have yu:lx.length=v.cells.toList.length:=po.symm;rw[yu];exact((hl.take q).append hv).append (hl.drop (q+v.cells.toList.length))
end
end Go.Proofs.YtdanidpleofjgaaGreat
