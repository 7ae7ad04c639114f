/- Part 1: rules of the proofs. -/
import Derived.Orders
import Derived.Test.YtldbakcpcfdlaaaGreatA00
set_option linter.all false
namespace Go.Proofs.YtldbakcpcfdlaaaGreat
open Go Go.RowKit
def Env.only (ts:List Nat) (Γ:Env):Env:=Γ.filter λp=>ts.contains p.1
def Env.CS {ts:List Nat} {t:Nat} {x:AV}:∀{Γ:Env},Env.get t (Env.only ts Γ)=some x->Env.get t Γ=some x/\ts.contains t=true
 |[],h=>by simp[Env.only,Env.get] at h
 |p::r,h=>by
  have ih:=λk=>Env.CS (ts:=ts) (t:=t) (x:=x) (Γ:=r) k;unfold Env.only at h ih;rw[List.filter_cons] at h;cases hm:ts.contains p.1 with
  |false=>
   rw[hm] at h
   have:=ih (by simpa using h)
   refine⟨?_,this.2⟩
   simp only[Env.get]
   cases hb:Nat.beq p.1 t with
   |true=>
    obtain rfl:p.1=t:=Nat.eq_of_beq_eq_true hb
    rw[this.2] at hm;cases hm
   |false=>simpa using this.1
  |true=>
   rw[hm] at h
   simp only[if_true,Env.get] at h⊢
   cases hb:Nat.beq p.1 t with
   |true=>
    rw[hb] at h
    obtain rfl:p.1=t:=Nat.eq_of_beq_eq_true hb
    exact⟨h,hm⟩
   |false=>
    rw[hb] at h
    exact ih h
def mV (P:Program) (H:List Own) (ops:Array Oper) (Γ:Env) (o:Oper) (x:AV):Prop:=
 ∀(base:Nat->Prop) (I:Im) (a:Act) (w:World) (K:Act->World->Prop) (Q:Exit->Act->World->Prop),cM I a Γ->dx w I->bO base I w H->
  (∀v I' w',x.h I' v->Step I w I' w'->K (a.put o.dst v) w')->
  if Region.wanted o (yielded ops a.tmps) then o.wp P a w K Q else K (a.put o.dst undef) w
section
variable {P:Program} {H:List Own} {Γ:Env}
def mV.of {ops:Array Oper} {o:Oper} {x:AV} (hg:o.guard=none) (ok:Ok P H Γ true o x):mV P H ops Γ o x:=λbase I a w K Q he hm hw k=>by
 rw[if_pos (by simp[Region.wanted,hg])];exact ok base I a w K Q he hm hw rfl k
def mV.zA {ops:Array Oper} {o:Oper} {x:AV} {G:Bool} (hg:hP ops Γ o G) (ok:Ok P H Γ G o x):mV P H ops Γ o (.cond G x):=λbase I a w K Q he hm hw k=>by
 rw[hg I a he];cases G with
 |true=>
  rw[if_pos rfl]
  exact ok base I a w K Q he hm hw rfl λv I' w' hx s=>k v I' w' ⟨λ_=>hx,λh=>(by cases h)⟩ s
 |false=>
  rw[if_neg bt]
  exact k undef I w ⟨λh=>(by cases h),λ_=>rfl⟩ (Step.refl hm)
def p9 (P:Program) (H:List Own) (ops:Array Oper):Env->List Oper->List AV->Prop
 |_,[],[]=>True
 |Γ,o::os,x::xs=>mV P H ops (Γ.only (o.looksAt ops)) o x/\p9 P H ops ((o.dst.getD 0,x)::Γ) os xs
 |_,_,_=>False
def p9.n {ops:Array Oper}:p9 P H ops Γ [] []:=trivial
def p9.c {ops:Array Oper} {o:Oper} {os:List Oper} {x:AV} {xs:List AV} (h:mV P H ops (Γ.only (o.looksAt ops)) o x) (k:p9 P H ops ((o.dst.getD 0,x)::Γ) os xs):p9 P H ops Γ (o::os) (x::xs):=⟨h,k⟩
def pd (Γ:Env):List Oper->List AV->Env
 |o::os,x::xs=>pd ((o.dst.getD 0,x)::Γ) os xs
 |_,_=>Γ
end
def wU (s:List Nat) (x:Nat):List Nat:=if s.contains x then s else x::s
def IF {s:List Nat} {x k:Nat} (h:k∈wU s x):k=x\/k∈s:=by
 unfold wU at h;split at h
 .exact .inr h
 exact List.mem_cons.1 h
def IG (s t:List Nat):List Nat:=t.foldl wU s
def IH {k:Nat}:∀{t s:List Nat},k∈IG s t->k∈s\/k∈t
 |[],s,h=>.inl h
 |x::t,s,h=>by
  rcases IH (t:=t) (s:=wU s x) h with h|h
  .rcases IF h with rfl|h
   .exact .inr bt
   exact .inl h
  exact .inr (by simp[h])
def ry (acc:List (List Nat)):List Edge->List Nat
 |[]=>[]
 |e::r=>if Region.binds .any e then IG (wU (ry acc r) e.on) (acc.getD e.on []) else ry acc r
def iC:List (List Nat)->List Oper->List (List Nat)
 |acc,[]=>acc
 |acc,o::os=>iC (acc++[ry acc o.after.toList]) os
def II {S:Nat->Bool} {acc:List (List Nat)} (IJ:∀i k,k∈acc.getD i []->S i=true->S k=true):∀{es:List Edge},(∀e∈es,Region.binds .any e=true->S e.on=true)->∀k∈ry acc es,S k=true
 |[],_,k,h=>by simp[ry] at h
 |e::r,he,k,h=>by
  have ih:=II IJ (es:=r) (λe' h'=>he e' (by simp[h']));unfold ry at h;split at h
  .rename_i hb;have IK:=he e bt hb;rcases IH h with h|h
   .rcases IF h with rfl|h
    .exact IK
    exact ih k h
   exact IJ _ _ h IK
  exact ih k h
def zB {S:Nat->Bool}:∀(os:List Oper) (acc:List (List Nat)),(∀i k,k∈acc.getD i []->S i=true->S k=true)->
 (∀i o,os[i]?=some o->S (acc.length+i)=true->∀e∈o.after.toList,Region.binds .any e=true->S e.on=true)->
 ∀i k,k∈(iC acc os).getD i []->S i=true->S k=true
 |[],acc,h,_=>h
 |o::os,acc,h,U=>by
  unfold iC;refine zB os _ (λi k hk hi=>?_) (λi o' ho hi=>?_)
  .by_cases cj:i<acc.length
   .refine h i k ?_ hi;simpa[List.getD,List.getElem?_append_left cj] using hk
   by_cases heq:i=acc.length
   .subst heq;have eo:k∈ry acc o.after.toList:=by simpa[List.getD] using hk
    by_cases hS:S acc.length=true
    .exact II h (U 0 o rfl (by simpa using hS)) k eo
    exact absurd hi hS
   have:(acc++[ry acc o.after.toList])[i]?=none:=by simp;omega
   rw[List.getD_eq_getElem?_getD,this] at hk;simp at hk
  have:=U (i+1) o' (by simpa using ho);simp only[List.length_append,List.length_cons,List.length_nil] at hi;exact this (by rw[<-hi];congr 1;omega)
def slotsOf (ops:Array Oper) (o:Oper):List Nat:=o.dst.toList++o.looksAt ops
abbrev l6:=Nat×Nat×AV
def ep:Nat->List Oper->List AV->List l6
 |k,o::os,x::xs=>(k,o.dst.getD 0,x)::ep (k+1) os xs
 |_,_,_=>[]
def er (l:List l6):Env:=l.map (·.2)
def wV {t:Nat} {Γ:Env} {p q:l6->Bool}:∀(L:List l6),(∀e∈L,e.2.1=t->p e=q e)->Env.get t (er (L.filter p)++Γ)=Env.get t (er (L.filter q)++Γ)
 |[],_=>rfl
 |e::L,h=>by
  have ih:=wV (t:=t) (Γ:=Γ) (p:=p) (q:=q) L (λe' h'=>h e' (by simp[h']));by_cases ht:e.2.1=t
  .have:=h e bt ht;cases hp:p e
   .have hq:q e=false:=by rw[<-this];exact hp
    simpa[List.filter_cons,hp,hq] using ih
   have hq:q e=true:=by rw[<-this];exact hp
   simp[hp,hq,er,Env.get,ht]
  have hb:Nat.beq e.2.1 t=false:=by
   cases hb:Nat.beq e.2.1 t with
   |false=>rfl
   |true=>exact absurd (Nat.eq_of_beq_eq_true hb) ht
  have key:∀(r:Bool->List l6),True:=λ_=>trivial;cases hp:p e<;>cases hq:q e<;>simp[hp,hq,er,Env.get,hb]<;>simpa[er] using ih
def CT {t i:Nat} {x:AV} {Γ:Env} {p:l6->Bool}:∀(L:List l6),L.Pairwise (λe f=>f.1<e.1)->(i,t,x)∈L->p (i,t,x)=true->(∀e∈L,p e=true->e.2.1=t->e.1<=i)->
 Env.get t (er (L.filter p)++Γ)=some x
 |[],_,h,_,_=>by simp at h
 |e::L,hL,hm,hp,hle=>by
  rcases List.mem_cons.1 hm with rfl|lB
  .simp[hp,er,Env.get]
  have cj:i<e.1:=(List.pairwise_cons.1 hL).1 _ lB;have ih:=CT (Γ:=Γ) L (List.pairwise_cons.1 hL).2 lB hp (λe' h'=>hle e' (by simp[h']));cases CU:p e
  .simpa[List.filter_cons,CU] using ih
  have bH:e.2.1≠t:=λht=>by have:=hle e bt CU ht;omega
  have hb:Nat.beq e.2.1 t=false:=by
   cases hb:Nat.beq e.2.1 t with
   |false=>rfl
   |true=>exact absurd (Nat.eq_of_beq_eq_true hb) bH
  simpa[List.filter_cons,CU,er,Env.get,hb] using ih
def IL {e:l6}:∀{k:Nat} {os:List Oper} {xs:List AV},e∈ep k os xs->∃i o,os[i]?=some o/\xs[i]?=some e.2.2/\e.1=k+i/\e.2.1=o.dst.getD 0
 |k,[],_,h=>by simp[ep] at h
 |k,o::os,[],h=>by simp[ep] at h
 |k,o::os,x::xs,h=>by
  rcases List.mem_cons.1 h with rfl|h
  .exact⟨0,o,rfl,rfl,rfl,rfl⟩
  obtain⟨i,o',h1,h2,h3,h4⟩:=IL h;exact⟨i+1,o',by simpa using h1,by simpa using h2,by omega,h4⟩
def Q4 {i:Nat} {o:Oper} {x:AV}:∀{k:Nat} {os:List Oper} {xs:List AV},os[i]?=some o->xs[i]?=some x->(k+i,o.dst.getD 0,x)∈ep k os xs:=by
 induction i with
 |zero=>intro k os xs h1 h2;cases os<;>cases xs<;>simp at h1 h2;subst h1 h2;simp[ep]
 |succ i ih=>
  intro k os xs h1 h2
  cases os<;>cases xs<;>simp at h1 h2
  have:=ih (k:=k+1) h1 h2
  simp only[ep,List.mem_cons]
  exact .inr (by rw[show k+(i+1)=k+1+i from by omega];exact this)
def zC:∀(k:Nat) (os:List Oper) (xs:List AV),(ep k os xs).Pairwise (λe f=>e.1<f.1)/\∀e∈ep k os xs,k<=e.1
 |k,[],_=>by simp[ep]
 |k,o::os,[]=>by simp[ep]
 |k,o::os,x::xs=>by
  have ih:=zC (k+1) os xs;refine⟨List.pairwise_cons.2 ⟨λe he=>by have:=ih.2 e he;simp;omega,ih.1⟩,λe he=>?_⟩;rcases List.mem_cons.1 he with rfl|he
  .simp
  have:=ih.2 e he;omega
def p9.at {P:Program} {H:List Own} {ops:Array Oper} {Γ0:Env}:∀(os:List Oper) (xs:List AV) (k:Nat) (done:List l6),p9 P H ops (er done++Γ0) os xs->(∀e∈done,e.1<k)->
 os.length=xs.length/\∀i o x,os[i]?=some o->xs[i]?=some x->mV P H ops ((er (((ep k os xs).reverse++done).filter λe=>decide (e.1<k+i))++Γ0).only (o.looksAt ops)) o x
 |[],[],_,_,_,_=>⟨rfl,λi o x h=>by simp at h⟩
 |o::os,x::xs,k,done,h,hd=>by
  obtain⟨h1,h2⟩:=h;have ih:=p9.at os xs (k+1) ((k,o.dst.getD 0,x)::done) h2 (λe he=>by
   rcases List.mem_cons.1 he with rfl|he
   .simp
   have:=hd e he;omega)
  refine⟨by simp[ih.1],λi o' x' ho hx=>?_⟩;have wW:(ep k (o::os) (x::xs)).reverse++done=(ep (k+1) os xs).reverse++((k,o.dst.getD 0,x)::done):=by simp[ep]
  rw[wW];cases i with
  |zero=>
   simp at ho hx;subst ho hx
   have hf:((ep (k+1) os xs).reverse++((k,o.dst.getD 0,x)::done)).filter (λe=>decide (e.1<k+0))=done:=by
    rw[List.filter_append];have e1:(ep (k+1) os xs).reverse.filter (λe=>decide (e.1<k+0))=[]:=by
     rw[List.filter_eq_nil_iff];intro e he;have:=(zC (k+1) os xs).2 e (List.mem_reverse.1 he);simp;omega
    rw[e1,List.filter_cons];simp only[Nat.add_zero,Nat.lt_irrefl,decide_false,Bool.false_eq_true,if_false,List.nil_append];rw[List.filter_eq_self];intro e he;simpa using hd e he
   rw[hf];exact h1
  |succ i=>
   have:=ih.2 i o' x' (by simpa using ho) (by simpa using hx)
   rw[show k+(i+1)=k+1+i from by omega]
   exact this
 |[],_::_,_,_,h,_=>h.elim
 |_::_,[],_,_,h,_=>h.elim
def IM:∀(os:List Oper) (xs:List AV) (k:Nat) (Γ:Env),pd Γ os xs=er (ep k os xs).reverse++Γ
 |[],_,_,_=>by simp[pd,ep,er]
 |_::_,[],_,_=>by simp[pd,ep,er]
 |o::os,x::xs,k,Γ=>by
  rw[pd,IM os xs (k+1)];simp[ep,er]
section
variable {P:Program} {c:Ctx} {I:Im} {H:List Own} {Γ:Env} {a:Act} {w:World} {Q:Exit->Act->World->Prop}
def filter_lt {α:Type} {p q:α->Bool} {i:α}:∀{l:List α},i∈l->p i=true->q i=false->(∀j,q j=true->p j=true)->(l.filter q).length<(l.filter p).length
 |[],h,_,_,_=>by simp at h
 |x::l,h,hp,hq,CV=>by
  have hle:∀l:List α,(l.filter q).length<=(l.filter p).length:=λl=>by
   induction l with
   |nil=>simp
   |cons y l ih=>
    cases hy:q y
    .cases CW:p y<;>simp[hy,CW]<;>omega
    simp[hy,CV y hy];omega
  rcases List.mem_cons.1 h with rfl|h
  .have:=hle l;simp[hp,hq];omega
  have ih:=filter_lt h hp hq CV;cases hy:q x
  .cases CW:p x<;>simp[hy,CW]<;>omega
  simp[hy,CV x hy];omega
def zD {listed:Array Bool} {i j:Nat} (hi:i<listed.size) (v:Bool):(listed.setIfInBounds i true).getD j v=if j=i then true else listed.getD j v:=by
 by_cases h:j=i
 .subst h;simp[hi]
 rw[if_neg h,Array.getD_eq_getD_getElem?,Array.getElem?_setIfInBounds_ne (λe=>h e.symm),<-Array.getD_eq_getD_getElem?]
end
def Own.gone:Own:=⟨λ_=>False,λ_ _=>True,λ_ _ _ _ _ _ _=>trivial⟩
section
variable {base:Nat->Prop} {I:Im} {w:World} {H:List Own}
def bO.push (h:bO base I w H) (hb:base w.heap.size) {o:Obj} {x:Own} (jq:∀b,x.fh b->b=w.heap.size) (hm:dx w I) (ok:x.ok I (w.alloc o)):bO base I (w.alloc o) (H++[x]):=by
 have h':=h.step (Step.alloc hm o);refine⟨λy hy=>?_,?_⟩
 .rcases List.mem_append.1 hy with hy|hy
  .exact h'.all y hy
  obtain rfl:y=x:=by simpa using hy
  refine⟨ok,λb e=>?_⟩;obtain rfl:=jq b e;exact⟨hb,hm.none (Nat.le_refl _),by simp⟩
 rw[List.pairwise_append];refine⟨h'.apart,by simp,λy hy z hz b e e'=>?_⟩;obtain rfl:z=x:=by simpa using hz
 have h1:=((h.all y hy).2 b e).2.2;have h2:=jq b e';omega
def kz.symm {o p:Own} (h:kz o p):kz p o:=λb e e'=>h b e' e
def wX {H:List Own} {i k:Nat} {x y:Own} (h:H.Pairwise kz) (bH:i≠k) (hi:H[i]?=some y) (hk:H[k]?=some x):kz y x:=by
 obtain⟨h1,rfl⟩:=List.getElem?_eq_some_iff.1 hi;obtain⟨h2,rfl⟩:=List.getElem?_eq_some_iff.1 hk;rw[List.pairwise_iff_getElem] at h;rcases Nat.lt_or_ge i k with hl|hl
 .exact h i k h1 h2 hl
 exact(h k i h2 h1 om).symm
def pe {x:Own} {k:Nat} (hd:H.Pairwise kz) (hx:∀b,x.fh b->(∃y,H[k]?=some y/\y.fh b)\/∀y∈H,¬y.fh b):(H.set k x).Pairwise kz:=by
 rw[List.pairwise_iff_getElem];have key:∀(i:Nat) (hi:i<H.length),i≠k->kz H[i] x:=λi hi bH b e e'=>by
  rcases hx b e' with⟨y,h1,h2⟩|h
  .exact wX hd bH (List.getElem?_eq_getElem hi) h1 b e h2
  exact h _ (List.getElem_mem hi) e
 intro i j hi hj jE;rw[List.length_set] at hi hj;rw[List.getElem_set,List.getElem_set];split
 .split
  .omega
  exact(key j hj om).symm
 split
 .exact key i hi om
 exact wX hd (by omega:i≠j) (List.getElem?_eq_getElem hi) (List.getElem?_eq_getElem hj)
def bO.write {w':World} {k:Nat} {x x':Own} (h:bO base I w H) (hk:H[k]?=some x) (jq:x'.fh=x.fh) (Q5:w'.heap.size=w.heap.size)
 (hw:∀b,¬x.fh b->w'.heap[b]?=w.heap[b]?) (ok:x'.ok I w'):bO base I w' (H.set k x'):=by
 have jX:k<H.length:=(List.getElem?_eq_some_iff.1 hk).1;refine⟨λy hy=>?_,pe h.apart λb hb=>.inl ⟨x,hk,by rw[<-jq];exact hb⟩⟩;rw[List.mem_iff_getElem?] at hy;obtain⟨i,hi⟩:=hy;by_cases sK:i=k
 .subst sK;rw[List.getElem?_set_self jX] at hi;cases hi;obtain⟨_,h2⟩:=h.all x (List.mem_of_getElem? hk);exact⟨ok,λb hb=>by obtain⟨a1,a2,a3⟩:=h2 b (by rw[<-jq];exact hb);exact⟨a1,a2,by omega⟩⟩
 rw[List.getElem?_set_ne (λe=>sK e.symm)] at hi;obtain⟨h1,h2⟩:=h.all y (List.mem_of_getElem? hi);exact⟨y.jd I I w w' (Im.le_refl I) (λb hb=>hw b λe=>wX h.apart sK hi hk b hb e) h1,λb hb=>by obtain⟨a1,a2,a3⟩:=h2 b hb;exact⟨a1,a2,by omega⟩⟩
def eF.write {c:Ctx} {w':World} {b:Nat} (U:eF c.F c.I c.W I w) (hb:c.own b) (hI:I b=none) (Q5:w'.heap.size=w.heap.size)
 (Q6:w'.os=w.os) (Q7:w'.tape=w.tape) (Q8:w'.output=w.output) (hw:∀k,k≠b->w'.heap[k]?=w.heap[k]?):eF c.F c.I c.W I w':=
 ⟨U.le,U.fL,λk cs e=>by
  obtain⟨T,fr,hh⟩:=U.cX k cs e;exact⟨T,fr,by rw[hw k (λh=>by subst h;rw[hI] at e;cases e)];exact hh⟩,
  ⟨Q6.trans U.below.os,Q7.trans U.below.tape,Q8.trans U.below.output,by have:=U.below.size;omega,λk hk hf=>(hw k (λe=>by subst e;rcases hb with h|h;exact absurd h om;exact hf h)).trans (U.below.block k hk hf)⟩⟩
end
section
variable {P:Program} {c:Ctx} {I:Im} {H:List Own} {Γ:Env} {a:Act} {w:World} {Q:Exit->Act->World->Prop} {ops:Array Oper} {rest:List Oper}
variable {d:Nat} {y z:Operand} {ty T T' E:TypeId} {p:String} {af:Array Edge} {g:Bool} {gd:Option (Nat×Bool)} {n m:Nat} {zv:Value}
def St.lC {I':Im} {w':World} {H':List Own} (U:St c I H Γ a w) (bX:eF c.F c.I c.W I' w') (hle:Im.le I I') (ho:bO c.own I' w' H') {d:Nat} (hd:Nat.blt d c.n=true) {x:AV} {v:Value} (hx:x.h I' v):
 St c I' H' ((d,x)::Γ) (a.put (some d) v) w':=
 ⟨bX,ho,(U.env.up hle).put (by rw[U.size];simpa using hd) hx,by simp[Act.put,U.size],U.defers⟩
def wY {w:World} {T:TypeId} {v:Value}:(newVar T v).run P w=.ok ⟨w.heap.size,0,none⟩ (w.alloc (.cells v.cells T)):=by
 rfl
def Q9 {d:Option Tmp} {l:List AV} (h:At Γ g y (.agg l)):Ok P H Γ g ⟨d,.box T y,ty,p,af,gd⟩ (.ptr l):=
 λbase I a w K Q he hm hw hg k=>by
  obtain⟨cs,e,hl⟩:=h I a he hg;unfold Oper.wp;simp only[execOp,Instr.box,e,Sem.run_bind,wY,Result.andThen_ok,Sem.run_pure,Value.cells,Oper.upon_value];refine k _ _ _ ⟨⟨w.heap.size,0,none⟩,rfl,rfl,cs,by simp[Im.add],?_⟩ (Step.wM hm cs T (0,0));have:=(hl.up (Im.wL (cs:=cs) (hm.none (Nat.le_refl _))));refine this.cast rfl ?_;have hlen:=this.length;simp only[List.drop_zero];rw[List.take_of_length_le om]
def wZ {v:Value} (h:v.oneCell'=true):v.cells=#[v]:=by
 cases v<;>simp_all[Value.cells,Value.oneCell']
def AV.One (x:AV):Prop:=∀I v,x.h I v->v.oneCell'=true
def fi {v:Value} (h:v.oneCell'=true):(AV.val v).One:=λ_ _ e=>by rw[show _=v from e];exact h
def dD {s:Nat} {l:List (List AV)}:(AV.rows s l).One:=λ_ _ ⟨_,_,e,_⟩=>by rw[e];rfl
def fB {l:List AV}:(AV.ptr l).One:=λ_ _ ⟨_,e,_⟩=>by rw[e];rfl
def uQ {d:Option Tmp} {x:AV} (h:At Γ g y x) (hx:x.One):Ok P H Γ g ⟨d,.box T y,ty,p,af,gd⟩ (.ptr [x]):=
 λbase I a w K Q he hm hw hg k=>by
  have e:=h I a he hg;unfold Oper.wp;simp only[execOp,Instr.box,Sem.run_bind,wY,Result.andThen_ok,Sem.run_pure,wZ (hx _ _ e),Oper.upon_value];refine k _ _ _ ⟨⟨w.heap.size,0,none⟩,rfl,rfl,#[a.eval y],by simp[Im.add],?_⟩ (Step.wM hm _ T (0,0));simp only[List.drop_zero,List.length_cons,List.length_nil];exact⟨⟨x.up _ _ _ (Im.wL (hm.none (Nat.le_refl _))) e,hx _ _ e⟩,trivial⟩
def St.alloc {l:List AV} {ag:Bool} (U:St c I H Γ a w) (hd:Nat.blt d c.n=true) (hT:Ty P T ag n m zv) (hz:∀I,bm I l zv.cells.toList)
 (k:∀b I a' w',St c I (H++[Own.box b T l]) ((d,.val (.pointer (some ⟨b,0,none⟩)))::Γ) a' w'->wpList P ops Q rest a' w'):
 wpList P ops Q (⟨some d,.alloc T,ty,p,af,none⟩::rest) a w:=by
 unfold wpList;rw[if_pos (by simp[Region.wanted])];left;unfold Oper.wp;have w3:(zeroValue T).run P w=.ok zv w:=hT.zero;simp only[execOp,Instr.alloc,Sem.run_bind,w3,Result.andThen_ok,wY,Sem.run_pure,Oper.upon_value];refine k w.heap.size I _ _ (U.lC (U.step.trans (Step.alloc U.step.cX _)) (Im.le_refl _) (U.own.push (x:=Own.box w.heap.size T l) U.room (λ_ e=>e.symm) U.step.cX ⟨_,ru w _,hz I⟩) hd rfl)
def St.box {l:List AV} (U:St c I H Γ a w) (hd:Nat.blt d c.n=true) (h:At Γ true y (.agg l))
 (k:∀b I a' w',St c I (H++[Own.box b T l]) ((d,.val (.pointer (some ⟨b,0,none⟩)))::Γ) a' w'->wpList P ops Q rest a' w'):
 wpList P ops Q (⟨some d,.box T y,ty,p,af,none⟩::rest) a w:=by
 unfold wpList;rw[if_pos (by simp[Region.wanted])];left;obtain⟨cs,e,hl⟩:=h I a U.env rfl;unfold Oper.wp;simp only[execOp,Instr.box,e,Sem.run_bind,wY,Result.andThen_ok,Sem.run_pure,Value.cells,Oper.upon_value];exact k w.heap.size I _ _ (U.lC (U.step.trans (Step.alloc U.step.cX _)) (Im.le_refl _) (U.own.push (x:=Own.box w.heap.size T l) U.room (λ_ e=>e.symm) U.step.cX ⟨_,ru w _,hl⟩) hd rfl)
def dV {α:Type} (l:List α) (q:Nat) (x:List α):List α:=l.take q++x++l.drop (q+x.length)
def IN {w:World} {ag:Bool} (hT:Ty P T ag n m zv) {b q:Nat} {cs:Array Value} {v:Value} (hb:w.heap[b]?=some (.cells cs T' (0,0))) (hv:v.cells.size=n) (hq:q+n<=cs.size) (h1:∀u∈v.cells.toList,u.oneCell'=true):
 (storeVar T ⟨b,q,none⟩ v).run P w=.ok () (w.setRow b (dV cs.toList q v.cells.toList).toArray):=by
 have cF:(sizeOf T).run P w=.ok n w:=hT.size;have bX:=run_storeCells_at P b q T' v.cells.toList 0 cs w hb fK h1;simp only[Nat.add_zero] at bX;simp only[storeVar,Sem.run_bind,cF,Result.andThen_ok,hv,ne_eq,not_true_eq_false,if_false,bX];simp[dV]
def sL {w w':World} {v:Value} {b q:Nat} {K:Act->World->Prop} {Q:Exit->Act->World->Prop} (hy:a.eval y=.pointer (some ⟨b,q,none⟩)) (hz:a.eval z=v)
 (hr:(storeVar T ⟨b,q,none⟩ v).run P w=.ok () w') (k:K a w'):(⟨none,.store T y z,ty,p,af,gd⟩:Oper).wp P a w K Q:=by
 unfold Oper.wp;simp only[execOp,Instr.storeAt,hy,hz,Instr.sureAddr,Sem.run_bind,Sem.run_pure,Result.andThen_ok,hr,Oper.upon_skip];exact k
def St.written {H':List Own} {w':World} (U:St c I H Γ a w) (bX:eF c.F c.I c.W I w') (ho:bO c.own I w' H'):St c I H' Γ a w':=
 ⟨bX,ho,U.env,U.size,U.defers⟩
def St.zE {ag:Bool} {b q:Nat} {l lx:List AV} {v:Value} (k:Nat) (U:St c I H Γ a w) (hT:Ty P T ag n m zv) (hk:H[k]?=some (Own.box b T' l)) (hv:bm I lx v.cells.toList) (hn:lx.length=n) (hq:Nat.ble (q+n) l.length=true):
 ∃w',(storeVar T ⟨b,q,none⟩ v).run P w=.ok () w'/\St c I (H.set k (Own.box b T' (dV l q lx))) Γ a w':=by
 obtain⟨⟨cs,hb,hl⟩,h2⟩:=U.own.all _ (List.mem_of_getElem? hk);obtain⟨sM,qc,qd⟩:=h2 b rfl;have hlen:=hl.length;have mW:=hv.length;have IP:q+n<=l.length:=Nat.le_of_ble_eq_true hq;have cF:cs.size=l.length:=by simpa using hlen
 have hr:=IN (P:=P) hT (q:=q) (v:=v) hb (by simp at mW;omega) om hv.one;refine⟨_,hr,U.written (U.step.write sM qc bt rfl rfl rfl λk' eo=>setRow_other w b k' _ eo) (U.own.write hk rfl bt (λk' eo=>setRow_other w b k' _ λe=>eo (by rw[e];rfl)) ⟨_,setRow_heap w b cs _ T' _ hb,?_⟩)⟩;have w4:lx.length=v.cells.toList.length:=mW.symm;simp only[dV,w4];exact((hl.take q).append hv).append (hl.drop (q+v.cells.toList.length))
end
section
variable {P:Program} {c:Ctx} {I:Im} {H:List Own} {Γ:Env} {a:Act} {w:World} {Q:Exit->Act->World->Prop} {ops:Array Oper} {rest:List Oper}
variable {d:Nat} {y z:Operand} {ty T T' E:TypeId} {p:String} {af:Array Edge} {g:Bool} {gd:Option (Nat×Bool)} {n m:Nat} {zv:Value}
def hZ {o:Oper} (hg:o.guard=none) (h:o.wp P a w (wpList P ops Q rest) Q):wpList P ops Q (o::rest) a w:=by
 unfold wpList;rw[if_pos (by simp[Region.wanted,hg])];exact .inl h
def IQ {α:Type} {l:List α} {q:Nat} {x:α} (h:q<l.length):dV l q [x]=l.set q x:=by
 rw[List.set_eq_take_append_cons_drop,if_pos h];simp[dV]
def St.uR {b q:Nat} {l:List AV} {x:AV} (k:Nat) (U:St c I H Γ a w) (hT:Ty P T false 1 m zv) (hy:At Γ true y (.val (.pointer (some ⟨b,q,none⟩)))) (hz:At Γ true z x) (hx:x.One)
 (hk:H[k]?=some (Own.box b T' l)) (hq:Nat.ble (q+1) l.length=true)
 (kk:∀a' w',St c I (H.set k (Own.box b T' (l.set q x))) Γ a' w'->wpList P ops Q rest a' w'):
 wpList P ops Q (⟨none,.store T y z,ty,p,af,none⟩::rest) a w:=by
 have hv:=hz I a U.env rfl;have hc:=wZ (hx _ _ hv);obtain⟨w',hr,bM⟩:=U.zE (q:=q) (lx:=[x]) (v:=a.eval z) k hT hk (by rw[hc];exact⟨⟨hv,hx _ _ hv⟩,trivial⟩) rfl hq;rw[IQ (Nat.le_of_ble_eq_true hq)] at bM;exact hZ rfl (sL (hy I a U.env rfl) rfl hr (kk _ _ bM))
def St.mX {b q:Nat} {l lx:List AV} (k:Nat) (U:St c I H Γ a w) (hT:Ty P T true n m zv) (hy:At Γ true y (.val (.pointer (some ⟨b,q,none⟩)))) (hz:At Γ true z (.agg lx))
 (hk:H[k]?=some (Own.box b T' l)) (hn:lx.length=n) (hq:Nat.ble (q+n) l.length=true)
 (kk:∀a' w',St c I (H.set k (Own.box b T' (dV l q lx))) Γ a' w'->wpList P ops Q rest a' w'):
 wpList P ops Q (⟨none,.store T y z,ty,p,af,none⟩::rest) a w:=by
 obtain⟨cs,hv,hl⟩:=hz I a U.env rfl;obtain⟨w',hr,bM⟩:=U.zE (q:=q) (lx:=lx) (v:=a.eval z) k hT hk (by rw[hv];exact hl) hn hq;exact hZ rfl (sL (hy I a U.env rfl) rfl hr (kk _ _ bM))
def St.IS {b:Nat} {l lx:List AV} (k:Nat) (U:St c I H Γ a w) (hT:Ty P T true n m zv) (hy:At Γ true y (.val (.pointer (some ⟨b,0,none⟩)))) (hz:At Γ true z (.agg lx))
 (hk:H[k]?=some (Own.box b T' l)) (hn:lx.length=n) (hl:l.length=n)
 (kk:∀a' w',St c I (H.set k (Own.box b T' lx)) Γ a' w'->wpList P ops Q rest a' w'):
 wpList P ops Q (⟨none,.store T y z,ty,p,af,none⟩::rest) a w:=
 U.mX k hT hy hz hk hn (by rw[hl];simp) λa' w' h=>kk a' w' (by
  have e:dV l 0 lx=lx:=by simp[dV];omega
  rwa[e] at h)
def St.fC {sz:Nat} (U:St c I H Γ a w) (T:TypeId):St c I (H++[Own.row (.slice none 0 0) T sz []]) Γ a w:=
 ⟨U.step,⟨λy hy=>by
  rcases List.mem_append.1 hy with hy|hy
  .exact U.own.all y hy
  .obtain rfl:=by simpa using hy
   exact⟨⟨λr hr=>by simp at hr,.inl ⟨rfl,.inl rfl⟩⟩,λb e=>by simp[Own.row,l3] at e⟩,
  by rw[List.pairwise_append];exact⟨U.own.apart,by simp,λy _ z hz b _ e=>by obtain rfl:z=_:=List.mem_singleton.1 hz;simp[Own.row,l3] at e⟩⟩,U.env,U.size,U.defers⟩
def IT {v:Value} (h:sH v):l3 v=none:=by
 rcases h with rfl|⟨q,rfl,_⟩<;>simp[l3]
def St.zF {v:Value} {sz:Nat} (U:St c I H Γ a w) (T:TypeId) (hv:sH v):St c I (H++[Own.row v T sz []]) Γ a w:=
 ⟨U.step,⟨λy hy=>by
  rcases List.mem_append.1 hy with hy|hy
  .exact U.own.all y hy
  .obtain rfl:=by simpa using hy
   exact⟨⟨λr hr=>by simp at hr,.inl ⟨rfl,hv⟩⟩,λb e=>by rw[rv,IT hv] at e;cases e⟩,
  by rw[List.pairwise_append];exact⟨U.own.apart,by simp,λy _ z hz b _ e=>by obtain rfl:z=_:=List.mem_singleton.1 hz;rw[rv,IT hv] at e;cases e⟩⟩,U.env,U.size,U.defers⟩
def fM {α:Type} {sz:Nat}:∀{l:List (List α)},(∀r∈l,r.length=sz)->l.flatten.length=l.length*sz
 |[],_=>by simp
 |x::l,h=>by
  rw[List.flatten_cons,List.length_append,h x bt,fM (λr hr=>h r (by simp[hr])),List.length_cons,Nat.succ_mul,Nat.add_comm]
def w5 (w:World) (E:TypeId) (sz:Nat) (v:Value) (k:Nat) (xs:List Value):Prop:=
 xs.length=k*sz/\((k=0/\sH v)\/∃b cap cur,v=.slice (some ⟨b,0,none⟩) k cap/\0<cap/\w.heap[b]?=some (.cells cur E (0,0))/\k<=cap/\cap<=maxLen/\cur.size=cap*sz/\cur.toList.take (k*sz)=xs)
def Ra {v:Value} {i:TypeInfo} {sz k mm:Nat} {xs:List Value} (hU:P.underlying T=some (.slice E)) (hi:P.info? E=some i) (hz:i.zero=some zv) (h1:i.size=sz) (h2:i.bytes=m) (fe:zv.cells.size=sz)
 (dN:w5 w E sz v k xs) (ad:Addr) (cp:Nat) (cs:List Value) (hl:cs.length=mm*sz) (hc:∀j u,cs[j]?=some u->w.cell? (ad.add j)=some u) (uS:∀u∈cs,u.oneCell'=true)
 (sN:k+mm<=maxLen) (hb:(k+mm)*m<=140737488355328):
 ∃v' w',(Builtin.append_ #[T,T] ty #[v,.slice (some ad) mm cp]).run P w=.ok v' w'/\w5 w' E sz v' (k+mm) (xs++cs)/\
  ((v'=v/\w'=w)\/(∃g cap mY cur,v=.slice (some ⟨g,0,none⟩) k cap/\0<cap/\v'=.slice (some ⟨g,0,none⟩) (k+mm) mY/\0<mY/\w'=w.setRow g cur)\/
   ∃mY cur,v'=.slice (some ⟨w.heap.size,0,none⟩) (k+mm) mY/\0<mY/\w'=w.drew.alloc (.cells cur E)):=by
 subst h1 h2;have aeK:k+mm<=9223372036854775807:=by simp only[maxLen] at sN;omega
 have lD:=dN.1;have hlen:(xs++cs).length=(k+mm)*i.size:=by rw[List.length_append,lD,hl,Nat.add_mul]
 have fresh:∀fL,0<k+mm->w5 (w.drew.alloc (.cells (xs.toArray++cs.toArray++Builtin.zeroCells zv.cells (grownCap w (k+mm) fL E-(k+mm))) E)) E i.size
  (.slice (some ⟨w.heap.size,0,none⟩) (k+mm) (grownCap w (k+mm) fL E)) (k+mm) (xs++cs):=λfL lE=>by
  have sO:=grownCap_ge w (k+mm) fL E;refine⟨hlen,.inr ⟨w.heap.size,_,_,rfl,by omega,ru w.drew _,sO,grownCap_le_maxLen w (k+mm) fL E sN,?_,?_⟩⟩
  .have e1:=size_zeroCells zv.cells (grownCap w (k+mm) fL E-(k+mm));rw[Array.size_append,Array.size_append,e1,fe];simp only[List.size_toArray,lD,hl,<-Nat.add_mul];congr 1;omega
  simp only[Array.toList_append,List.append_assoc];rw[<-List.append_assoc,<-hlen];exact List.take_left
 have CX:∀fL,0<k+mm->0<grownCap w (k+mm) fL E:=λfL h=>by have:=grownCap_ge w (k+mm) fL E;omega
 rcases dN.2 with⟨rfl,qe⟩|⟨g,cap,cur,rfl,CY,hg,IU,CZ,je,IV⟩
 .obtain rfl:xs=[]:=List.eq_nil_of_length_eq_zero (by simpa using lD);rcases Nat.eq_zero_or_pos mm with rfl|lE
  .obtain rfl:cs=[]:=List.eq_nil_of_length_eq_zero (by simpa using hl);refine⟨v,w,?_,⟨by simp,.inl ⟨rfl,qe⟩⟩,.inl ⟨rfl,rfl⟩⟩;rcases qe with rfl|⟨q,rfl,_⟩
   .simp[Builtin.append_,run_underlying hU,sizeOf,typeInfo,hi,Builtin.lenOf,Builtin.firstCells,loadCells,loadCellsFrom]
   simp[Builtin.append_,run_underlying hU,sizeOf,typeInfo,hi,Builtin.lenOf,Builtin.firstCells,loadCells,loadCellsFrom,storeCells]
  rcases qe with rfl|⟨q,rfl,_⟩
  .have hr:=run_append_nil (P:=P) w T ty E i zv hU hi hz ad mm cp cs hl hc lE om (by simp only[Nat.zero_add] at hb;omega);have hf:=fresh 0 om;have IW:=CX 0 om;simp only[Nat.zero_add,List.nil_append,Array.empty_append] at hf IW⊢;exact⟨_,_,hr,hf,.inr (.inr ⟨_,_,rfl,IW,rfl⟩)⟩
  have hr:=run_append_grow (P:=P) w T ty E i zv hU hi hz q 0 0 [] bt (λj u h=>by simp at h) ad mm cp cs hl hc om om (growslice_fits om hb);exact⟨_,_,hr,fresh 0 om,.inr (.inr ⟨_,_,rfl,CX 0 om,rfl⟩)⟩
 by_cases w6:k+mm<=cap
 .have jF:k*i.size+cs.length<=cur.size:=by rw[hl,je,<-Nat.add_mul];exact Nat.mul_le_mul_right _ w6
  have hr:=run_append_room (P:=P) w T ty E i hU hi g k cap cur hg ad mm cp cs hl hc uS w6 jF;refine⟨_,_,hr,⟨hlen,.inr ⟨g,cap,_,rfl,CY,setRow_heap w g cur _ E _ hg,w6,CZ,?_,?_⟩⟩,.inr (.inl ⟨g,cap,cap,_,rfl,CY,rfl,CY,rfl⟩)⟩
  .simp only[List.size_toArray,List.length_append,List.length_take,List.length_drop,Array.length_toList];omega
  rw[IV,<-hlen];exact List.take_left
 have holds:∀j u,xs[j]?=some u->w.cell? ((⟨g,0,none⟩:Addr).add j)=some u:=λj u hu=>by
  rw[add_plain];simp only[World.cell?,hg,Option.isSome_none,Bool.false_eq_true,if_false];rw[<-IV,List.getElem?_take] at hu;split at hu
  .simpa using hu
  cases hu
 have hr:=run_append_grow (P:=P) w T ty E i zv hU hi hz ⟨g,0,none⟩ k cap xs lD holds ad mm cp cs hl hc om om (growslice_fits om hb);exact⟨_,_,hr,fresh cap om,.inr (.inr ⟨_,_,rfl,CX cap om,rfl⟩)⟩
def Rb {I:Im} {w:World} {E:TypeId} {sz:Nat} {v:Value} {l:List (List AV)} (h:(Own.row v E sz l).ok I w):∃xs,w5 w E sz v l.length xs/\bm I l.flatten xs:=by
 obtain⟨cF,⟨rfl,hb⟩|⟨b,cap,cur,e,h0,h1,h2,h3,h4,h5⟩⟩:=h
 .exact⟨[],⟨by simp,.inl ⟨rfl,hb⟩⟩,trivial⟩
 exact⟨_,⟨by rw[h5.length,fM cF],.inr ⟨b,cap,cur,e,h0,h1,h2,h3,h4,rfl⟩⟩,h5⟩
def Rc {I:Im} {w:World} {E:TypeId} {sz:Nat} {v:Value} {l:List (List AV)} {xs:List Value} (cF:∀r∈l,r.length=sz) (h:w5 w E sz v l.length xs) (hx:bm I l.flatten xs):(Own.row v E sz l).ok I w:=by
 obtain⟨_,⟨h0,hb⟩|⟨b,cap,cur,e,h0,h1,h2,h3,h4,rfl⟩⟩:=h
 .exact⟨cF,.inl ⟨List.eq_nil_of_length_eq_zero h0,hb⟩⟩
 exact⟨cF,.inr ⟨b,cap,cur,e,h0,h1,h2,h3,h4,hx⟩⟩
def bO.renew {base:Nat->Prop} {w':World} {k:Nat} {x x':Own} (h:bO base I w H) (hm:dx w I) (hb:base w.heap.size) (hk:H[k]?=some x) (jq:∀b,x'.fh b->b=w.heap.size)
 (bX:Step I w I w') (cj:w.heap.size<w'.heap.size) (ok:x'.ok I w'):bO base I w' (H.set k x'):=by
 have h':=h.step bX;refine⟨λy hy=>?_,pe h.apart λb e=>.inr λy hy e'=>?_⟩
 .rcases List.mem_or_eq_of_mem_set hy with hy|rfl
  .exact h'.all y hy
  exact⟨ok,λb e=>by obtain rfl:=jq b e;exact⟨hb,hm.none (Nat.le_refl _),cj⟩⟩
 obtain rfl:=jq b e;have:=((h.all y hy).2 _ e').2.2;omega
def Step.IX {w:World} {I:Im} (h:dx w I) (o:Obj):Step I w I (w.drew.alloc o):=
 ⟨Im.le_refl _,λ_ _=>rfl,dx.alloc (w:=w.drew) h o,((Below.refl w.heap.size w).drew).alloc (Nat.le_refl _) _⟩
def St.zG {v:Value} {sz:Nat} {l l2:List (List AV)} {x:Value} {ag:Bool} (k:Nat) (U:St c I H Γ a w) (hU:P.underlying T=some (.slice E)) (hE:Ty P E ag sz m zv) (fe:zv.cells.size=sz)
 (hk:H[k]?=some (Own.row v E sz l)) (hx:(AV.rows sz l2).h I x) (hb:(l.length+l2.length)*m<=140737488355328) (sN:l.length+l2.length<=maxLen):
 ∃v' w',(Builtin.append_ #[T,T] ty #[v,x]).run P w=.ok v' w'/\St c I (H.set k (Own.row v' E sz (l++l2))) Γ a w':=by
 obtain⟨uJ,h2⟩:=U.own.all _ (List.mem_of_getElem? hk);have C0:=uJ.1;obtain⟨xs,dN,hl⟩:=Rb uJ;obtain⟨q,cap,e,g1,g2,g3,g4,g5⟩:=hx;obtain⟨i,hi,rz,iu,uT⟩:=hE.get;have jX:k<H.length:=(List.getElem?_eq_some_iff.1 hk).1;have pf:H.set k (Own.row v E sz l)=H:=by
  rw[List.getElem?_eq_getElem jX] at hk;have eo:H[k]=Own.row v E sz l:=by simpa using hk
  rw[<-eo];exact List.set_getElem_self jX
 cases q with
 |none=>
  have pb:l2=[]:=g4.resolve_right (λ⟨_,h,_⟩=>by cases h)
  subst pb
  have kD:=g5 rfl
  subst kD
  refine⟨v,w,?_,?_⟩
  .rw[e]
   rcases dN.2 with⟨h0,rfl|⟨q,rfl,_⟩⟩|⟨b,cap,cur,rfl,_,_,IU,_⟩
   .simp[Builtin.append_,run_underlying hU,sizeOf,typeInfo,hi,Builtin.lenOf,Builtin.firstCells]
   .simp[Builtin.append_,run_underlying hU,sizeOf,typeInfo,hi,Builtin.lenOf,Builtin.firstCells,storeCells]
   simp[Builtin.append_,run_underlying hU,sizeOf,typeInfo,hi,Builtin.lenOf,Builtin.firstCells,storeCells,IU]
  rw[List.append_nil,pf];exact U
 |some q=>
  have Rd:∃cs:List Value,bm I l2.flatten cs/\∀j u,cs[j]?=some u->w.cell? (q.add j)=some u:=by
   rcases g4 with rfl|⟨q,hq,kk⟩
   .exact⟨[],trivial,λj u h=>by simp at h⟩
   cases hq;obtain⟨b,off,s⟩:=q;obtain rfl:s=none:=kk.1;obtain⟨cs,h1,h2,h3⟩:=kk.toArray U.step.cX;exact⟨cs,h2,h3⟩
  obtain⟨cs,je,uM⟩:=Rd
  have hlen:cs.length=l2.length*sz:=by rw[je.length,fM g3]
  obtain⟨v',w',hr,C1,hw⟩:=Ra (P:=P) (ty:=ty) hU hi uT rz iu fe dN q cap cs hlen uM je.one sN hb
  refine⟨v',w',by rw[e];exact hr,?_⟩
  have al:(Own.row v' E sz (l++l2)).ok I w':=Rc (xs:=xs++cs) (λr hr=>by
   rcases List.mem_append.1 hr with hr|hr
   .exact C0 r hr
   exact g3 r hr) (by rw[List.length_append];exact C1) (by rw[List.flatten_append];exact hl.append je)
  rcases hw with⟨rfl,rfl⟩|⟨gg,Re,l7,cur,rfl,l8,rfl,l9,rfl⟩|⟨l7,cur,rfl,l9,rfl⟩
  .refine U.written U.step ⟨λy hy=>?_,pe U.own.apart λb hb=>.inl ⟨_,hk,hb⟩⟩
   rcases List.mem_or_eq_of_mem_set hy with hy|rfl
   .exact U.own.all y hy
   exact⟨al,h2⟩
  .have ae:l3 (.slice (some ⟨gg,0,none⟩) l.length Re)=some gg:=uK om
   have ah:∀n,l3 (.slice (some ⟨gg,0,none⟩) n l7)=some gg:=λn=>uK om
   obtain⟨k1,k2,k3⟩:=h2 gg ae
   exact U.written (U.step.write k1 k2 bt rfl rfl rfl λk' eo=>setRow_other w gg k' _ eo) (U.own.write hk (by funext b;rw[rv,rv,ae,ah]) bt (λk' eo=>setRow_other w gg k' _ λe=>eo (by rw[e];exact ae)) al)
  have st:=Step.IX U.step.cX (.cells cur E)
  exact U.written (U.step.trans st) (U.own.renew U.step.cX U.room hk (λ_ e=>CM om e) st bt al)
def St.append {v:Value} {sz:Nat} {l l2:List (List AV)} {ag:Bool} (k:Nat) (U:St c I H Γ a w) (hd:Nat.blt d c.n=true) (hU:P.underlying T=some (.slice E)) (hE:Ty P E ag sz m zv) (fe:zv.cells.size=sz)
 (hy:At Γ true y (.val v)) (hz:At Γ true z (.rows sz l2)) (hk:H[k]?=some (Own.row v E sz l)) (hb:(l.length+l2.length)*m<=140737488355328/\l.length+l2.length<=140737488355328)
 (kk:∀v' a' w',St c I (H.set k (Own.row v' E sz (l++l2))) ((d,.val v')::Γ) a' w'->wpList P ops Q rest a' w'):
 wpList P ops Q (⟨some d,.call ⟨.builtin .append,#[y,z],#[T,T]⟩,ty,p,af,none⟩::rest) a w:=by
 obtain⟨v',w',hr,bM⟩:=U.zG (ty:=ty) k hU hE fe hk (hz I a U.env rfl) hb.1 (by simp only[maxLen];omega);refine hZ rfl ?_;have e1:a.eval y=v:=hy I a U.env rfl;unfold Oper.wp;simp only[execOp,resolve,invoke,builtin,Sem.run_bind,Sem.run_pure,Result.andThen_ok,List.map_toArray,List.map_cons,List.map_nil,e1,hr];exact kk v' _ _ (bM.lC bM.step (Im.le_refl _) bM.own hd rfl)
end
section
variable {P:Program} {c:Ctx} {I:Im} {H:List Own} {Γ:Env} {a:Act} {w:World} {Q:Exit->Act->World->Prop} {ops:Array Oper} {rest:List Oper}
variable {d:Nat} {y z:Operand} {ty T T' E:TypeId} {p:String} {af:Array Edge} {g:Bool} {gd:Option (Nat×Bool)} {n m:Nat} {zv:Value}
def Rf {I:Im} {z:Array Value} {l:List AV} (h:bm I l z.toList):∀k,bm I (List.replicate k l).flatten (madeCells z (k*z.size)).toList:=by
 intro k;have key:∀k,(madeCells z (k*z.size)).toList=(List.replicate k z.toList).flatten:=by
  intro k;apply List.ext_getElem?;intro j;simp only[madeCells];by_cases hz:z.size=0
  .have:z.toList=[]:=by simpa using hz
   simp[hz,this]
  have jr:(List.replicate k z.toList).flatten.length=k*z.size:=by
   rw[fM (sz:=z.size) (λr hr=>by rw[(List.mem_replicate.1 hr).2];simp),List.length_replicate]
  by_cases hj:j<k*z.size
  .have hq:j/z.size<k:=Nat.div_lt_of_lt_mul (by rw[Nat.mul_comm];exact hj);have hm:j%z.size<z.size:=Nat.mod_lt _ om;have hr:(List.replicate k z.toList)[j/z.size]?=some z.toList:=by simp[hq]
   have h2:=zq (List.replicate k z.toList) z.size (λr hr=>by rw[(List.mem_replicate.1 hr).2];simp) _ _ hr;have h3:(List.replicate k z.toList).flatten[j]?=z.toList[j%z.size]?:=by
    have h4:(((List.replicate k z.toList).flatten.drop (j/z.size*z.size)).take z.size)[j%z.size]?=z.toList[j%z.size]?:=by rw[h2]
    rw[List.getElem?_take,if_pos hm,List.getElem?_drop] at h4;rw[<-h4];congr 1;have:=Nat.div_add_mod j z.size;rw[Nat.mul_comm] at this;exact this.symm
   rw[h3];simp[hj,hm]
  have e1:(List.replicate k z.toList).flatten[j]?=none:=by simp only[List.getElem?_eq_none_iff];omega
  rw[e1];simp;omega
 rw[key];induction k with
 |zero=>simp[bm]
 |succ k ih=>
  rw[List.replicate_succ,List.replicate_succ,List.flatten_cons,List.flatten_cons]
  exact h.append ih
def St.make {l:List AV} {sz:Nat} {ag:Bool} {k:Nat} (U:St c I H Γ a w) (hd:Nat.blt d c.n=true) (hU:P.underlying T=some (.slice E)) (hE:Ty P E ag sz m zv) (IY:∀I,bm I l zv.cells.toList) (fe:zv.cells.size=sz)
 (hy:At Γ true y (.int k)) (hz:At Γ true z (.int k)) (hb:m*k<=281474976710656/\k<=281474976710656)
 (kk:∀b a' w',St c I (H++[Own.row (.slice (some ⟨b,0,none⟩) k k) E sz (List.replicate k l)]) ((d,.val (.slice (some ⟨b,0,none⟩) k k))::Γ) a' w'->wpList P ops Q rest a' w'):
 wpList P ops Q (⟨some d,.makeSlice T y z,ty,p,af,none⟩::rest) a w:=by
 obtain⟨i,hi,h1,h2,h3⟩:=hE.get;have sN:k<=maxLen:=by simp only[maxLen];omega
 have hr:=run_make (P:=P) w T E i zv hU hi h3 .i64 .i64 k k (by omega) (Int.le_refl _) (by rw[h2];have:=hb.1;have:((m*k:Nat):Int)<=281474976710656:=by omega
                                                                                           rwa[Int.natCast_mul] at this) om
 simp only[Int.toNat_natCast] at hr;refine hZ rfl ?_;have e1:a.eval y=.int .i64 k:=hy I a U.env rfl;have e2:a.eval z=.int .i64 k:=hz I a U.env rfl;unfold Oper.wp;simp only[execOp,e1,e2,hr,Sem.run_bind,Sem.run_pure,Result.andThen_ok,Oper.upon_value];rw[h1];have hlen:l.length=sz:=by rw[<-fe,<-(IY I).length];simp
 have hm:=Rf (IY I) k;rw[fe] at hm;have Rg:∀r∈List.replicate k l,r.length=sz:=λr hr=>by rw[(List.mem_replicate.1 hr).2,hlen]
 have bX:=Step.alloc U.step.cX (.cells (madeCells zv.cells (k*sz)) E);refine kk w.heap.size _ _ (U.lC (U.step.trans bX) (Im.le_refl _) ?_ hd rfl);rcases Nat.eq_zero_or_pos k with rfl|lE
 .have:=((St.written U (U.step.trans bX) (U.own.step bX)).zF (sz:=sz) (v:=.slice (some ⟨w.heap.size,0,none⟩) 0 0) E (.inr ⟨_,rfl,rfl⟩)).own;simpa using this
 refine U.own.push (x:=Own.row (.slice (some ⟨w.heap.size,0,none⟩) k k) E sz (List.replicate k l)) U.room (λ_ e=>CM om e) U.step.cX ⟨Rg,.inr ⟨w.heap.size,k,_,by rw[List.length_replicate],lE,ru w _,by simp,sN,size_madeCells _ _,?_⟩⟩;rw[List.length_replicate,List.take_of_length_le (by simp[madeCells])];exact hm
def St.shape {v:Value} {sz:Nat} {l:List (List AV)} (k:Nat) (U:St c I H Γ a w) (hk:H[k]?=some (Own.row v E sz l)) (hl:0<l.length):∃b cap,v=.slice (some ⟨b,0,none⟩) l.length cap:=by
 obtain⟨⟨_,⟨h0,_⟩|⟨b,cap,cur,e,_⟩⟩,_⟩:=U.own.all _ (List.mem_of_getElem? hk)
 .subst h0;simp at hl
 exact⟨b,cap,e⟩
def Rh {I:Im} {w:World} {v:Value} {sz:Nat} {l:List (List AV)} (h:(Own.row v E sz l).ok I w):∃q cap,v=.slice q l.length cap:=by
 obtain⟨_,⟨rfl,rfl|⟨q,rfl,_⟩⟩|⟨b,cap,cur,e,_⟩⟩:=h
 .exact⟨none,0,rfl⟩
 .exact⟨some q,0,rfl⟩
 exact⟨_,cap,e⟩
def jY {d:Option Tmp} {v:Value} {sz:Nat} {l:List (List AV)} (k:Nat) (hT:P.underlying T=some (.slice T')) (h:At Γ g y (.val v)) (hk:H[k]?=some (Own.row v E sz l)):Ok P H Γ g ⟨d,.call ⟨.builtin .len,#[y],#[T]⟩,ty,p,af,gd⟩ (.int l.length):=
 fY λbase I a w he hm hw hg=>by
  have e:a.eval y=_:=h I a he hg;refine⟨_,?_,rfl⟩;have hv:=Rh (hw.all _ (List.mem_of_getElem? hk)).1;obtain⟨q,cap,rfl⟩:=hv;simp only[execOp,resolve,List.map_toArray,List.map_cons,List.map_nil,e];simp[go_sem,Builtin.len_,run_underlying hT]
def fj {d:Option Tmp} {ag:Bool} {b sz k cap:Nat} {i:Int} (hT:P.underlying T=some (.slice E)) (hE:Ty P E ag sz m zv) (h:At Γ g y (.val (.slice (some ⟨b,0,none⟩) k cap))) (hi:At Γ g z (.int i)) (hb:g=true->0<=i/\i<k):
 Ok P H Γ g ⟨d,.indexAddr T y z,ty,p,af,gd⟩ (.val (.pointer (some ⟨b,i.toNat*sz,none⟩))):=
 gr λI a w he hg=>by
  obtain⟨h0,h1⟩:=hb hg;have e:a.eval y=_:=h I a he hg;have e2:a.eval z=_:=hi I a he hg;have U:(sizeOf E).run P w=.ok sz w:=hE.size;simp only[execOp,e,e2,Instr.indexAt,asIntOf,Sem.run_bind,Sem.run_pure,Result.andThen_ok,run_underlying hT];simp[h0,h1,add_plain,U]
def IZ {I:Im} {w:World} {sz b cap:Nat} {l:List (List AV)} (h:(Own.row (.slice (some ⟨b,0,none⟩) l.length cap) E sz l).ok I w) (hl:l≠[]):
 ∃cur,0<cap/\w.heap[b]?=some (.cells cur E (0,0))/\l.length<=cap/\cap<=maxLen/\cur.size=cap*sz/\bm I l.flatten (cur.toList.take (l.length*sz)):=by
 obtain⟨_,⟨h0,_⟩|⟨b',mY,cur,e,h0,h1,h2,h3,h4,h5⟩⟩:=h
 .exact absurd h0 hl
 cases e;exact⟨cur,h0,h1,h2,h3,h4,h5⟩
def zH {k b cap q sz i j:Nat} {l:List (List AV)} {r:List AV} (hk:H[k]?=some (Own.row (.slice (some ⟨b,0,none⟩) l.length cap) E sz l)) {base:Nat->Prop} (hw:bO base I w H) (hr:l[i]?=some r) (hq:q=i*sz+j) (hj:j<=sz):
 ∃cs:List Value,bm I (r.drop j) cs/\cs.length=sz-j/\∀t u,cs[t]?=some u->w.cell? ⟨b,q+t,none⟩=some u:=by
 obtain⟨al,_⟩:=hw.all _ (List.mem_of_getElem? hk);have cF:=al.1;have hi:i<l.length:=(List.getElem?_eq_some_iff.1 hr).1;obtain⟨cur,_,hb,h3,_,h5,hl⟩:=IZ al (λe=>by subst e;simp at hi);have iD:r.length=sz:=cF r (List.mem_of_getElem? hr);have pb:=((hl.drop (i*sz)).take sz).drop j;rw[zq l sz cF i r hr] at pb;refine⟨_,pb,?_,λt u hu=>?_⟩
 .rw[pb.length,List.length_drop,iD]
 rw[List.getElem?_drop,List.getElem?_take] at hu;split at hu
 .rename_i cj;rw[List.getElem?_drop,List.getElem?_take] at hu;split at hu
  .simp only[World.cell?,hb,Option.isSome_none,Bool.false_eq_true,if_false];rw[hq,<-Array.getElem?_toList,Nat.add_assoc,hu]
  cases hu
 cases hu
def I4 {d:Option Tmp} {b q cap sz i j:Nat} {l:List (List AV)} {r:List AV} {x:AV} (k:Nat) (hT:Ty P T false n m zv) (h:At Γ g y (.val (.pointer (some ⟨b,q,none⟩)))) (hk:H[k]?=some (Own.row (.slice (some ⟨b,0,none⟩) l.length cap) E sz l))
 (hr:g=true->l[i]?=some r) (hq:q=i*sz+j) (hx:r[j]?=some x) (C2:Nat.blt j sz=true):Ok P H Γ g ⟨d,.load T y,ty,p,af,gd⟩ x:=
 fY λbase I a w he hm hw hg=>by
  have e:a.eval y=_:=h I a he hg;have hj:j<sz:=by simpa using C2
  obtain⟨cs,h1,h2,h3⟩:=zH hk hw (hr hg) hq om;obtain⟨u,hu,C3,_⟩:=h1.get (i:=0) (x:=x) (by rw[List.getElem?_drop];simpa using hx);refine⟨u,?_,C3⟩;have hc:w.cell? ⟨b,q,none⟩=some u:=h3 0 u hu;simp only[execOp,e,Instr.loadAt,Instr.sureAddr,Sem.run_bind,Sem.run_pure,Result.andThen_ok,wO hT hc]
def pg {d:Option Tmp} {b q cap sz i:Nat} {l:List (List AV)} {r:List AV} (k:Nat) (hT:Ty P T true sz m zv) (h:At Γ g y (.val (.pointer (some ⟨b,q,none⟩)))) (hk:H[k]?=some (Own.row (.slice (some ⟨b,0,none⟩) l.length cap) E sz l))
 (hr:g=true->l[i]?=some r) (hq:q=i*sz):Ok P H Γ g ⟨d,.load T y,ty,p,af,gd⟩ (.agg r):=
 fY λbase I a w he hm hw hg=>by
  have e:a.eval y=_:=h I a he hg;obtain⟨cs,h1,h2,h3⟩:=zH (q:=q) hk hw (hr hg) (j:=0) (by rw[hq];rfl) om;refine⟨.agg cs.toArray,?_,_,rfl,by simpa using h1⟩;have h4:∀t u,cs[t]?=some u->w.cell? ((⟨b,q,none⟩:Addr).add t)=some u:=λt u hu=>by rw[add_plain];exact h3 t u hu
  simp only[execOp,e,Instr.loadAt,Instr.sureAddr,Sem.run_bind,Sem.run_pure,Result.andThen_ok,wP hT om h4]
def I5 {α:Type} {sz:Nat}:∀{l:List (List α)} {i j:Nat} {r x:List α},(∀r∈l,r.length=sz)->l[i]?=some r->j+x.length<=sz->dV l.flatten (i*sz+j) x=(l.set i (dV r j x)).flatten
 |[],_,_,_,_,_,h,_=>by simp at h
 |y::l,0,j,r,x,U,h,hj=>by
  simp at h;subst h;have hy:y.length=sz:=U y bt;simp only[List.set_cons_zero,List.flatten_cons,dV,Nat.zero_mul,Nat.zero_add];rw[List.take_append_of_le_length om,List.drop_append_of_le_length om];simp
 |y::l,i+1,j,r,x,U,h,hj=>by
  have hy:y.length=sz:=U y bt;have ih:=I5 (l:=l) (i:=i) (j:=j) (r:=r) (x:=x) (λr hr=>U r (by simp[hr])) (by simpa using h) hj;rw[List.set_cons_succ,List.flatten_cons,List.flatten_cons,<-ih];simp only[dV];have e1:(i+1)*sz+j=y.length+(i*sz+j):=by rw[hy,Nat.succ_mul];omega
  rw[e1,List.take_append,List.take_of_length_le (Nat.le_add_right _ _),Nat.add_sub_cancel_left,Nat.add_assoc,List.drop_append,List.drop_eq_nil_of_le om];simp[Nat.add_assoc]
def Ri {α:Type} (L x:List α) (q N:Nat) (h:q+x.length<=N) (hL:N<=L.length):(dV L q x).take N=dV (L.take N) q x:=by
 apply List.ext_getElem?;intro t;simp only[dV,List.getElem?_take,List.getElem?_append,List.length_append,List.length_take,List.getElem?_drop];(repeat' split)<;>first|rfl|omega|(congr 1;omega)|skip
def St.C4 {ag:Bool} {b cap q sz i j:Nat} {l:List (List AV)} {r lx:List AV} {v:Value} (k:Nat) (U:St c I H Γ a w) (hT:Ty P T ag n m zv) (hk:H[k]?=some (Own.row (.slice (some ⟨b,0,none⟩) l.length cap) E sz l))
 (hv:bm I lx v.cells.toList) (hn:lx.length=n) (hr:l[i]?=some r) (hq:q=i*sz+j) (hj:j+n<=sz):
 ∃w',(storeVar T ⟨b,q,none⟩ v).run P w=.ok () w'/\St c I (H.set k (Own.row (.slice (some ⟨b,0,none⟩) l.length cap) E sz (l.set i (dV r j lx)))) Γ a w':=by
 obtain⟨al,h2⟩:=U.own.all _ (List.mem_of_getElem? hk);have cF:=al.1;have hi:i<l.length:=(List.getElem?_eq_some_iff.1 hr).1;obtain⟨cur,h0,hb,h3,h4,h5,hl⟩:=IZ al (λe=>by subst e;simp at hi);have jq:(Own.row (.slice (some ⟨b,0,none⟩) l.length cap) E sz l).fh b:=Io om;obtain⟨sM,qc,qd⟩:=h2 b jq;have iD:r.length=sz:=cF r (List.mem_of_getElem? hr);have mW:=hv.length;have hle:(i+1)*sz<=l.length*sz:=Nat.mul_le_mul_right _ hi;have kD:l.length*sz<=cap*sz:=Nat.mul_le_mul_right _ h3;rw[Nat.succ_mul] at hle;have ia:=IN (P:=P) hT (q:=q) (v:=v) hb (by simp at mW;omega) om hv.one;refine⟨_,ia,U.written (U.step.write sM qc bt rfl rfl rfl λk' eo=>setRow_other w b k' _ eo) (U.own.write hk rfl bt (λk' eo=>setRow_other w b k' _ λe=>eo (by rw[e];exact jq)) ?_)⟩;have Rj:v.cells.toList.length=n:=by omega
 have sP:v.cells.size=n:=by simpa using Rj
 have uU:q+n<=cur.size:=by omega
 refine⟨λx hx=>?_,.inr ⟨b,cap,_,by rw[List.length_set],h0,setRow_heap w b cur _ E _ hb,by rw[List.length_set];exact h3,h4,?_,?_⟩⟩
 .rcases List.mem_or_eq_of_mem_set hx with hx|rfl
  .exact cF x hx
  simp only[dV,List.length_append,List.length_take,List.length_drop];omega
 .simp only[dV,List.size_toArray,List.length_append,List.length_take,List.length_drop,Array.length_toList];omega
 rw[List.length_set];rw[show((dV cur.toList q v.cells.toList).toArray.toList.take (l.length*sz))=dV (cur.toList.take (l.length*sz)) q v.cells.toList from Ri _ _ _ _ om fK];rw[<-I5 cF hr om,<-hq];simp only[dV];have w4:lx.length=v.cells.toList.length:=mW.symm;rw[w4];exact((hl.take q).append hv).append (hl.drop (q+v.cells.toList.length))
end
end Go.Proofs.YtldbakcpcfdlaaaGreat
