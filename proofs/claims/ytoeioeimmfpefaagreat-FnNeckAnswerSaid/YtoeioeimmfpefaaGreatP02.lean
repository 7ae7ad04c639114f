/- Part 2: rules of the proofs, contracts of functions, plain facts. -/
import Derived.Orders
import Derived.Test.YtoeioeimmfpefaaGreatP01
set_option linter.unusedVariables false
set_option linter.unusedSimpArgs false
namespace Go.Proofs.YtoeioeimmfpefaaGreat
open Go Go.RowKit
def Env.only (ts:List Nat) (Γ:Env):Env:=Γ.filter fun p=>ts.contains p.1
theorem Env.vi {ts:List Nat} {t:Nat} {x:AV}:∀{Γ:Env},Env.get t (Env.only ts Γ)=some x→Env.get t Γ=some x∧ts.contains t=true
 |[],h=>by simp[Env.only,Env.get] at h
 |p::r,h=>by
  have ih:=fun k=>Env.vi (ts:=ts) (t:=t) (x:=x) (Γ:=r) k
  unfold Env.only at h ih
  rw[List.filter_cons] at h
  cases hm:ts.contains p.1 with
  |false=>
   rw[hm] at h
   have:=ih (by simpa using h)
   refine⟨?_,this.2⟩
   simp only[Env.get]
   cases hb:Nat.beq p.1 t with
   |true=>
    obtain rfl:p.1=t:=Nat.eq_of_beq_eq_true hb
    rw[this.2] at hm;cases hm
   |false=>simpa using this.1
  |true=>
   rw[hm] at h
   simp only[if_true,Env.get] at h⊢
   cases hb:Nat.beq p.1 t with
   |true=>
    rw[hb] at h
    obtain rfl:p.1=t:=Nat.eq_of_beq_eq_true hb
    exact⟨h,hm⟩
   |false=>
    rw[hb] at h
    exact ih h
def lJ (P:Program) (H:List Own) (ops:Array Oper) (Γ:Env) (o:Oper) (x:AV):Prop:=
 ∀(base:Nat→Prop) (I:Im) (a:Act) (w:World) (K:Act→World→Prop) (Q:Exit→Act→World→Prop),cF I a Γ→dr w I→bQ base I w H→
  (∀v I' w',x.h I' v→Step I w I' w'→K (a.put o.dst v) w')→
  if Region.wanted o (yielded ops a.tmps) then o.wp P a w K Q else K (a.put o.dst undef) w
section
variable {P:Program} {H:List Own} {Γ:Env}
theorem lJ.of {ops:Array Oper} {o:Oper} {x:AV} (hg:o.guard=none) (ok:Ok P H Γ true o x):lJ P H ops Γ o x:=fun base I a w K Q he hm hw k=>by
 rw[if_pos (by simp[Region.wanted,hg])]
 exact ok base I a w K Q he hm hw rfl k
theorem lJ.xD {ops:Array Oper} {o:Oper} {x:AV} {G:Bool} (hg:gJ ops Γ o G) (ok:Ok P H Γ G o x):lJ P H ops Γ o (.cond G x):=fun base I a w K Q he hm hw k=>by
 rw[hg I a he]
 cases G with
 |true=>
  rw[if_pos rfl]
  exact ok base I a w K Q he hm hw rfl fun v I' w' hx s=>k v I' w' ⟨fun _=>hx,fun h=>(by cases h)⟩ s
 |false=>
  rw[if_neg (by simp)]
  exact k undef I w ⟨fun h=>(by cases h),fun _=>rfl⟩ (Step.refl hm)
def j4 (P:Program) (H:List Own) (ops:Array Oper):Env→List Oper→List AV→Prop
 |_,[],[]=>True
 |Γ,o::os,x::xs=>lJ P H ops (Γ.only (o.looksAt ops)) o x∧j4 P H ops ((o.dst.getD 0,x)::Γ) os xs
 |_,_,_=>False
theorem j4.n {ops:Array Oper}:j4 P H ops Γ [] []:=trivial
theorem j4.c {ops:Array Oper} {o:Oper} {os:List Oper} {x:AV} {xs:List AV} (h:lJ P H ops (Γ.only (o.looksAt ops)) o x) (k:j4 P H ops ((o.dst.getD 0,x)::Γ) os xs):j4 P H ops Γ (o::os) (x::xs):=⟨h,k⟩
def lK (Γ:Env):List Oper→List AV→Env
 |o::os,x::xs=>lK ((o.dst.getD 0,x)::Γ) os xs
 |_,_=>Γ
end
def vj (s:List Nat) (x:Nat):List Nat:=if s.contains x then s else x::s
theorem E9 {s:List Nat} {x k:Nat} (h:k∈vj s x):k=x∨k∈s:=by
 unfold vj at h;split at h
 ·exact .inr h
 ·exact List.mem_cons.1 h
def Fa (s t:List Nat):List Nat:=t.foldl vj s
theorem Fb {k:Nat}:∀{t s:List Nat},k∈Fa s t→k∈s∨k∈t
 |[],s,h=>.inl h
 |x::t,s,h=>by
  rcases Fb (t:=t) (s:=vj s x) h with h|h
  ·rcases E9 h with rfl|h
   ·exact .inr (by simp)
   ·exact .inl h
  ·exact .inr (by simp[h])
def qD (acc:List (List Nat)):List Edge→List Nat
 |[]=>[]
 |e::r=>if Region.binds .any e then Fa (vj (qD acc r) e.on) (acc.getD e.on []) else qD acc r
def fy:List (List Nat)→List Oper→List (List Nat)
 |acc,[]=>acc
 |acc,o::os=>fy (acc++[qD acc o.after.toList]) os
theorem Fc {S:Nat→Bool} {acc:List (List Nat)} (Fe:∀i k,k∈acc.getD i []→S i=true→S k=true):∀{es:List Edge},(∀e∈es,Region.binds .any e=true→S e.on=true)→∀k∈qD acc es,S k=true
 |[],_,k,h=>by simp[qD] at h
 |e::r,he,k,h=>by
  have ih:=Fc Fe (es:=r) (fun e' h'=>he e' (by simp[h']))
  unfold qD at h
  split at h
  ·rename_i hb
   have Ff:=he e (by simp) hb
   rcases Fb h with h|h
   ·rcases E9 h with rfl|h
    ·exact Ff
    ·exact ih k h
   ·exact Fe _ _ h Ff
  ·exact ih k h
theorem pB {S:Nat→Bool}:∀(os:List Oper) (acc:List (List Nat)),(∀i k,k∈acc.getD i []→S i=true→S k=true)→
 (∀i o,os[i]?=some o→S (acc.length+i)=true→∀e∈o.after.toList,Region.binds .any e=true→S e.on=true)→
 ∀i k,k∈(fy acc os).getD i []→S i=true→S k=true
 |[],acc,h,_=>h
 |o::os,acc,h,hs=>by
  unfold fy
  refine pB os _ (fun i k hk hi=>?_) (fun i o' ho hi=>?_)
  ·by_cases bJ:i<acc.length
   ·refine h i k ?_ hi
    simpa[List.getD,List.getElem?_append_left bJ] using hk
   ·by_cases heq:i=acc.length
    ·subst heq
     have ec:k∈qD acc o.after.toList:=by simpa[List.getD] using hk
     by_cases hS:S acc.length=true
     ·exact Fc h (hs 0 o rfl (by simpa using hS)) k ec
     ·exact absurd hi hS
    ·have:(acc++[qD acc o.after.toList])[i]?=none:=by simp;omega
     rw[List.getD_eq_getElem?_getD,this] at hk;simp at hk
  ·have:=hs (i+1) o' (by simpa using ho)
   simp only[List.length_append,List.length_cons,List.length_nil] at hi
   exact this (by rw[←hi];congr 1;omega)
def slotsOf (ops:Array Oper) (o:Oper):List Nat:=o.dst.toList++o.looksAt ops
def tF (l:List Oper):Bool:=
 let C:=fy [] l
 let n:=l.length
 (l.zipIdx.all fun(o,i)=>o.dst.isSome&&(o.after.toList.all fun e=>!Region.binds .any e||Nat.blt e.on i)&&
   (slotsOf l.toArray o).all fun t=>l.zipIdx.all fun(o',j)=>Nat.beq i j||!(o'.dst==some t)||(if j<i then(C.getD i []).contains j else(C.getD j []).contains i))&&Nat.ble n n
abbrev lL:=Nat×Nat×AV
def dj:Nat→List Oper→List AV→List lL
 |k,o::os,x::xs=>(k,o.dst.getD 0,x)::dj (k+1) os xs
 |_,_,_=>[]
def c5 (l:List lL):Env:=l.map (·.2)
theorem pC {t:Nat} {Γ:Env} {p q:lL→Bool}:∀(L:List lL),(∀e∈L,e.2.1=t→p e=q e)→Env.get t (c5 (L.filter p)++Γ)=Env.get t (c5 (L.filter q)++Γ)
 |[],_=>rfl
 |e::L,h=>by
  have ih:=pC (t:=t) (Γ:=Γ) (p:=p) (q:=q) L (fun e' h'=>h e' (by simp[h']))
  by_cases ht:e.2.1=t
  ·have:=h e (by simp) ht
   cases hp:p e
   ·have hq:q e=false:=by rw[←this];exact hp
    simpa[List.filter_cons,hp,hq] using ih
   ·have hq:q e=true:=by rw[←this];exact hp
    simp[hp,hq,c5,Env.get,ht]
  ·have hb:Nat.beq e.2.1 t=false:=by
    cases hb:Nat.beq e.2.1 t with
    |false=>rfl
    |true=>exact absurd (Nat.eq_of_beq_eq_true hb) ht
   have key:∀(r:Bool→List lL),True:=fun _=>trivial
   cases hp:p e<;>cases hq:q e<;>simp[hp,hq,c5,Env.get,hb]<;>simpa[c5] using ih
theorem vm {t i:Nat} {x:AV} {Γ:Env} {p:lL→Bool}:∀(L:List lL),L.Pairwise (fun e f=>f.1<e.1)→(i,t,x)∈L→p (i,t,x)=true→(∀e∈L,p e=true→e.2.1=t→e.1≤i)→
 Env.get t (c5 (L.filter p)++Γ)=some x
 |[],_,h,_,_=>by simp at h
 |e::L,hL,hm,hp,hle=>by
  rcases List.mem_cons.1 hm with rfl|j5
  ·simp[hp,c5,Env.get]
  ·have bJ:i<e.1:=(List.pairwise_cons.1 hL).1 _ j5
   have ih:=vm (Γ:=Γ) L (List.pairwise_cons.1 hL).2 j5 hp (fun e' h'=>hle e' (by simp[h']))
   cases AI:p e
   ·simpa[List.filter_cons,AI] using ih
   ·have bn:e.2.1≠t:=fun ht=>by have:=hle e (by simp) AI ht;omega
    have hb:Nat.beq e.2.1 t=false:=by
     cases hb:Nat.beq e.2.1 t with
     |false=>rfl
     |true=>exact absurd (Nat.eq_of_beq_eq_true hb) bn
    simpa[List.filter_cons,AI,c5,Env.get,hb] using ih
theorem xE {e:lL}:∀{k:Nat} {os:List Oper} {xs:List AV},e∈dj k os xs→∃i o,os[i]?=some o∧xs[i]?=some e.2.2∧e.1=k+i∧e.2.1=o.dst.getD 0
 |k,[],_,h=>by simp[dj] at h
 |k,o::os,[],h=>by simp[dj] at h
 |k,o::os,x::xs,h=>by
  rcases List.mem_cons.1 h with rfl|h
  ·exact⟨0,o,rfl,rfl,rfl,rfl⟩
  ·obtain⟨i,o',h1,h2,h3,h4⟩:=xE h
   exact⟨i+1,o',by simpa using h1,by simpa using h2,by omega,h4⟩
theorem Fg {i:Nat} {o:Oper} {x:AV}:∀{k:Nat} {os:List Oper} {xs:List AV},os[i]?=some o→xs[i]?=some x→(k+i,o.dst.getD 0,x)∈dj k os xs:=by
 induction i with
 |zero=>intro k os xs h1 h2;cases os<;>cases xs<;>simp at h1 h2;subst h1 h2;simp[dj]
 |succ i ih=>
  intro k os xs h1 h2
  cases os<;>cases xs<;>simp at h1 h2
  have:=ih (k:=k+1) h1 h2
  simp only[dj,List.mem_cons]
  exact .inr (by rw[show k+(i+1)=k+1+i from by omega];exact this)
theorem vn:∀(k:Nat) (os:List Oper) (xs:List AV),(dj k os xs).Pairwise (fun e f=>e.1<f.1)∧∀e∈dj k os xs,k≤e.1
 |k,[],_=>by simp[dj]
 |k,o::os,[]=>by simp[dj]
 |k,o::os,x::xs=>by
  have ih:=vn (k+1) os xs
  refine⟨List.pairwise_cons.2 ⟨fun e he=>by have:=ih.2 e he;simp;omega,ih.1⟩,fun e he=>?_⟩
  rcases List.mem_cons.1 he with rfl|he
  ·simp
  ·have:=ih.2 e he;omega
theorem j4.at {P:Program} {H:List Own} {ops:Array Oper} {Γ0:Env}:∀(os:List Oper) (xs:List AV) (k:Nat) (done:List lL),j4 P H ops (c5 done++Γ0) os xs→(∀e∈done,e.1<k)→
 os.length=xs.length∧∀i o x,os[i]?=some o→xs[i]?=some x→lJ P H ops ((c5 (((dj k os xs).reverse++done).filter fun e=>decide (e.1<k+i))++Γ0).only (o.looksAt ops)) o x
 |[],[],_,_,_,_=>⟨rfl,fun i o x h=>by simp at h⟩
 |o::os,x::xs,k,done,h,hd=>by
  obtain⟨h1,h2⟩:=h
  have ih:=j4.at os xs (k+1) ((k,o.dst.getD 0,x)::done) h2 (fun e he=>by
   rcases List.mem_cons.1 he with rfl|he
   ·simp
   ·have:=hd e he;omega)
  refine⟨by simp[ih.1],fun i o' x' ho hx=>?_⟩
  have vo:(dj k (o::os) (x::xs)).reverse++done=(dj (k+1) os xs).reverse++((k,o.dst.getD 0,x)::done):=by simp[dj]
  rw[vo]
  cases i with
  |zero=>
   simp at ho hx;subst ho hx
   have hf:((dj (k+1) os xs).reverse++((k,o.dst.getD 0,x)::done)).filter (fun e=>decide (e.1<k+0))=done:=by
    rw[List.filter_append]
    have e1:(dj (k+1) os xs).reverse.filter (fun e=>decide (e.1<k+0))=[]:=by
     rw[List.filter_eq_nil_iff]
     intro e he
     have:=(vn (k+1) os xs).2 e (List.mem_reverse.1 he)
     simp;omega
    rw[e1,List.filter_cons]
    simp only[Nat.add_zero,Nat.lt_irrefl,decide_false,Bool.false_eq_true,if_false,List.nil_append]
    rw[List.filter_eq_self]
    intro e he
    simpa using hd e he
   rw[hf];exact h1
  |succ i=>
   have:=ih.2 i o' x' (by simpa using ho) (by simpa using hx)
   rw[show k+(i+1)=k+1+i from by omega]
   exact this
 |[],_::_,_,_,h,_=>h.elim
 |_::_,[],_,_,h,_=>h.elim
theorem xF:∀(os:List Oper) (xs:List AV) (k:Nat) (Γ:Env),lK Γ os xs=c5 (dj k os xs).reverse++Γ
 |[],_,_,_=>by simp[lK,dj,c5]
 |_::_,[],_,_=>by simp[lK,dj,c5]
 |o::os,x::xs,k,Γ=>by
  rw[lK,xF os xs (k+1)]
  simp[dj,c5]
theorem AJ {l:List Oper} (h:tF l=true) {i:Nat} {o:Oper} (ho:l[i]?=some o):
 (∃d,o.dst=some d)∧(∀e∈o.after.toList,Region.binds .any e=true→e.on<i)∧
 ∀t∈slotsOf l.toArray o,∀j o',l[j]?=some o'→i≠j→o'.dst=some t→if j<i then j∈(fy [] l).getD i [] else i∈(fy [] l).getD j []:=by
 simp only[tF,List.all_eq_true,Bool.and_eq_true] at h
 have hm:(o,i)∈l.zipIdx:=by rw[List.mem_zipIdx_iff_getElem?];exact ho
 obtain⟨⟨h1,h2⟩,h3⟩:=h.1 _ hm
 refine⟨Option.isSome_iff_exists.1 h1,fun e he hb=>?_,fun t ht j o' eR bn hd=>?_⟩
 ·have:=h2 e he
  rw[hb] at this
  simpa using this
 ·have j5:(o',j)∈l.zipIdx:=by rw[List.mem_zipIdx_iff_getElem?];exact eR
  have:=h3 t ht _ j5
  have hb:Nat.beq i j=false:=by
   cases hb:Nat.beq i j with
   |false=>rfl
   |true=>exact absurd (Nat.eq_of_beq_eq_true hb) bn
  simp only[hb,hd,Bool.false_or] at this
  have h4:(!(some t==some t))=false:=by simp
  rw[h4,Bool.false_or] at this
  split
  ·rename_i bJ;rw[if_pos bJ] at this;simpa using this
  ·rename_i bJ;rw[if_neg bJ] at this;simpa using this
section
variable {P:Program} {c:Ctx} {I:Im} {H:List Own} {Γ:Env} {a:Act} {w:World} {Q:Exit→Act→World→Prop}
theorem filter_lt {α:Type} {p q:α→Bool} {i:α}:∀{l:List α},i∈l→p i=true→q i=false→(∀j,q j=true→p j=true)→(l.filter q).length<(l.filter p).length
 |[],h,_,_,_=>by simp at h
 |x::l,h,hp,hq,AK=>by
  have hle:∀l:List α,(l.filter q).length≤(l.filter p).length:=fun l=>by
   induction l with
   |nil=>simp
   |cons y l ih=>
    cases hy:q y
    ·cases AL:p y<;>simp[hy,AL]<;>omega
    ·simp[hy,AK y hy];omega
  rcases List.mem_cons.1 h with rfl|h
  ·have:=hle l
   simp[hp,hq];omega
  ·have ih:=filter_lt h hp hq AK
   cases hy:q x
   ·cases AL:p x<;>simp[hy,AL]<;>omega
   ·simp[hy,AK x hy];omega
theorem tG {listed:Array Bool} {i j:Nat} (hi:i<listed.size) (v:Bool):(listed.setIfInBounds i true).getD j v=if j=i then true else listed.getD j v:=by
 by_cases h:j=i
 ·subst h;simp[hi]
 ·rw[if_neg h,Array.getD_eq_getD_getElem?,Array.getElem?_setIfInBounds_ne (fun e=>h e.symm),←Array.getD_eq_getD_getElem?]
theorem MT {l:List Oper} {xs:List AV} (dx:tF l=true) (hlen:l.length=xs.length) (hd:∀o∈l,Nat.blt (o.dst.getD 0) c.n=true)
 (run:∀i o x,l[i]?=some o→xs[i]?=some x→lJ P H l.toArray ((c5 ((dj 0 l xs).reverse.filter fun e=>decide (e.1<i))++Γ).only (o.looksAt l.toArray)) o x)
 (k:∀I' a' w',St c I' H (c5 (dj 0 l xs).reverse++Γ) a' w'→Q .normal a' w'):
 ∀(fuel:Nat) (listed:Array Bool) (I:Im) (a:Act) (w:World),listed.size=l.length→((List.range l.length).filter fun i=>!listed.getD i false).length≤fuel→
  (∀i o,l[i]?=some o→listed.getD i false=true→∀e∈o.after.toList,Region.binds .any e=true→listed.getD e.on false=true)→
  St c I H (c5 ((dj 0 l xs).reverse.filter fun e=>listed.getD e.1 false)++Γ) a w→wpAny P .any l.toArray Q fuel listed a w:=by
 have AM:∀(listed:Array Bool) (i:Nat),listed.size=l.length→i<l.length→listed.getD i true=listed.getD i false:=fun listed i hs hi=>by
  simp[hs,hi]
 have aT:∀(listed:Array Bool) (I:Im) (a:Act) (w:World),(∀i,i<l.length→listed.getD i false=true)→St c I H (c5 ((dj 0 l xs).reverse.filter fun e=>listed.getD e.1 false)++Γ) a w→Q .normal a w:=fun listed I a w h hs=>by
  refine k I a w ?_
  have:(dj 0 l xs).reverse.filter (fun e=>listed.getD e.1 false)=(dj 0 l xs).reverse:=by
   rw[List.filter_eq_self]
   intro e he
   obtain⟨i,o,h1,_,h3,_⟩:=xE (List.mem_reverse.1 he)
   rw[h3,Nat.zero_add]
   exact h i (List.getElem?_eq_some_iff.1 h1).1
  rwa[this] at hs
 have rO:∀(listed:Array Bool),listed.size=l.length→Region.ready .any l.toArray listed=[]→∀i,i<l.length→listed.getD i false=true:=fun listed cr hr i=>by
  induction i using Nat.strongRecOn with
  |_ i ih=>
   intro hi
   cases hl:listed.getD i false with
   |true=>rfl
   |false=>
    have:i∈Region.ready .any l.toArray listed:=by
     refine mem_ready.2 ⟨by rw[AM listed i cr hi];exact hl,l[i],by simp[hi],fun e he hb=>?_⟩
     have bJ:=(AJ dx (i:=i) (o:=l[i]) (by simp[hi])).2.1 e (by simpa using he) hb
     exact ih e.on bJ (by omega)
    rw[hr] at this;cases this
 intro fuel
 induction fuel with
 |zero=>
  intro listed I a w cr hf bB hs
  have h0:∀i,i<l.length→listed.getD i false=true:=fun i hi=>by
   have:(List.range l.length).filter (fun i=>!listed.getD i false)=[]:=List.eq_nil_of_length_eq_zero (by omega)
   rw[List.filter_eq_nil_iff] at this
   simpa using this i (by simpa using hi)
  refine⟨?_,aT listed I a w h0 hs⟩
  rw[List.eq_nil_iff_forall_not_mem]
  intro i hi
  obtain⟨h1,o,h2,_⟩:=mem_ready.1 hi
  have bJ:i<l.length:=by have:=(Array.getElem?_eq_some_iff.1 h2).1;simpa using this
  rw[AM listed i cr bJ,h0 i bJ] at h1
  cases h1
 |succ fuel ih=>
  intro listed I a w cr hf bB hs
  refine⟨fun hr=>aT listed I a w (rO listed cr hr) hs,fun i hi=>?_⟩
  obtain⟨h1,o,h2,h3⟩:=mem_ready.1 hi
  have bJ:i<l.length:=by have:=(Array.getElem?_eq_some_iff.1 h2).1;simpa using this
  have ho:l[i]?=some o:=by simpa using h2
  rw[AM listed i cr bJ] at h1
  obtain⟨⟨d,lM⟩,ZT,oe⟩:=AJ dx ho
  have rP:=pB (S:=fun j=>listed.getD j false) l [] (fun i k hk=>by simp at hk) (fun i o ho hi e he hb=>bB i o ho (by simpa using hi) e he hb)
  have dA:∀j,(listed.setIfInBounds i true).getD j false=if j=i then true else listed.getD j false:=fun j=>tG (by omega) false
  have og:∀i' o',l[i']?=some o'→(listed.setIfInBounds i true).getD i' false=true→∀e∈o'.after.toList,Region.binds .any e=true→(listed.setIfInBounds i true).getD e.on false=true:=fun i' o' eR fA e he hb=>by
   rw[dA] at fA⊢
   split
   ·rfl
   ·split at fA
    ·rename_i pD;subst pD
     rw[ho] at eR;cases eR
     exact h3 e (by simpa using he) hb
    ·exact bB i' o' eR fA e he hb
  have MU:∀j,j<i→j∈(fy [] l).getD i []→listed.getD j false=true:=fun j oh hj=>by
   have rQ:=pB (S:=fun j=>(listed.setIfInBounds i true).getD j false) l [] (fun i k hk=>by simp at hk) (fun i' o' eR jN e he hb=>og i' o' eR (by simpa using jN) e he hb)
   have h':=rQ i j hj (by show(listed.setIfInBounds i true).getD i false=true;rw[dA];simp)
   have rR:(listed.setIfInBounds i true).getD j false=true:=h'
   rwa[dA,if_neg (by omega)] at rR
  have j6:∀j,i∈(fy [] l).getD j []→listed.getD j false=false:=fun j hj=>by
   cases hb:listed.getD j false with
   |false=>rfl
   |true=>rw[rP j i hj hb] at h1;cases h1
  have hx:i<xs.length:=by omega
  have jg:xs[i]?=some xs[i]:=by simp[hx]
  generalize xs[i]=x at jg
  have eS:=run i o x ho jg
  have hL:(dj 0 l xs).reverse.Pairwise (fun e f=>f.1<e.1):=by
   rw[List.pairwise_reverse];exact(vn 0 l xs).1
  have jh:∀e∈(dj 0 l xs).reverse,∃o',l[e.1]?=some o'∧o'.dst=some e.2.1:=fun e he=>by
   obtain⟨j,o',g1,_,g3,g4⟩:=xE (List.mem_reverse.1 he)
   obtain⟨d',gK⟩:=(AJ dx g1).1
   refine⟨o',by rw[g3,Nat.zero_add];exact g1,?_⟩
   rw[g4,gK];rfl
  have rS:cF I a ((c5 ((dj 0 l xs).reverse.filter fun e=>decide (e.1<i))++Γ).only (o.looksAt l.toArray)):=fun t y e=>by
   obtain⟨g1,g2⟩:=Env.vi e
   have ht:t∈slotsOf l.toArray o:=by
    unfold slotsOf;rw[List.mem_append];exact .inr (by simpa using g2)
   rw[pC (q:=fun e=>listed.getD e.1 false) _ (fun e he ig=>?_)] at g1
   ·exact hs.env t y g1
   ·obtain⟨o',k1,k2⟩:=jh e he
    by_cases kW:e.1=i
    ·rw[kW,h1];simp
    ·have:=oe t ht e.1 o' k1 (fun h=>kW h.symm) (by rw[k2,ig])
     split at this
     ·rename_i fO;rw[MU e.1 fO this];simpa using fO
     ·rename_i fO;rw[j6 e.1 this];simpa using fO
  have rT:((List.range l.length).filter fun j=>!(listed.setIfInBounds i true).getD j false).length≤fuel:=by
   have:=filter_lt (l:=List.range l.length) (p:=fun j=>!listed.getD j false) (q:=fun j=>!(listed.setIfInBounds i true).getD j false) (i:=i) (by simpa using bJ) (by simp only[h1];rfl) (by simp only[dA];simp) (fun j hj=>by
    simp only[dA] at hj;split at hj
    ·cases hj
    ·exact hj)
   omega
  unfold wpOp
  simp only[h2]
  have ga:=eS c.own I a w (wpAny P .any l.toArray Q fuel (listed.setIfInBounds i true)) Q rS hs.step.cE hs.own (fun v I' w' hv st=>by
   refine ih (listed.setIfInBounds i true) I' _ w' (by simp[cr]) rT og ?_
   rw[lM]
   have jO:=hs.put (d:=d) (x:=x) (v:=v) (by
    have:=hd o (List.mem_of_getElem? ho)
    rw[lM] at this;simpa using this) hv st
   refine jO.le fun t y e=>?_
   have mB:(i,d,x)∈(dj 0 l xs).reverse:=by
    rw[List.mem_reverse]
    have:=Fg (k:=0) ho jg
    rwa[lM,Nat.zero_add] at this
   by_cases ji:t=d
   ·subst ji
    rw[vm (i:=i) (x:=x) _ hL mB (by simp only[dA];simp) (fun e he hp ig=>?_)] at e
    ·rw[←e];simp[Env.get]
    ·obtain⟨o',k1,k2⟩:=jh e he
     by_cases hle:e.1≤i
     ·exact hle
     ·have bn:e.1≠i:=by omega
      have:=oe t (by unfold slotsOf;rw[lM];simp) e.1 o' k1 (fun h=>bn h.symm) (by rw[k2,ig])
      rw[if_neg (by omega)] at this
      simp only[dA,if_neg bn] at hp
      rw[j6 e.1 this] at hp;cases hp
   ·rw[pC (q:=fun e=>listed.getD e.1 false) _ (fun e he ig=>?_)] at e
    ·have hb:Nat.beq d t=false:=by
      cases hb:Nat.beq d t with
      |false=>rfl
      |true=>exact absurd (Nat.eq_of_beq_eq_true hb).symm ji
     simp only[Env.get,hb,cond_false];exact e
    ·obtain⟨o',k1,k2⟩:=jh e he
     have bn:e.1≠i:=fun h=>by
      rw[h,ho] at k1;cases k1
      rw[lM] at k2;cases k2
      exact ji ig.symm
     simp only[dA,if_neg bn])
  by_cases hw:Region.wanted o (yielded l.toArray a.tmps)=true
  ·rw[if_pos hw] at ga⊢;exact .inl ga
  ·rw[if_neg hw] at ga⊢;exact ga
theorem St.draw {id:Nat} {l:List Oper} {xs:List AV} (hs:St c I H Γ a w) (hm:P.follows .mixedOrders=true) (dx:tF l=true) (hd:(l.all fun o=>Nat.blt (o.dst.getD 0) c.n)=true)
 (run:j4 P H l.toArray Γ l xs) (k:∀I' a' w',St c I' H (lK Γ l xs) a' w'→Q .normal a' w'):(Code.region id l.toArray true).wp P Q a w:=by
 refine wp_region_any hm ?_
 obtain⟨hlen,eS⟩:=j4.at (Γ0:=Γ) l xs 0 [] (by simpa[c5] using run) (fun e he=>by simp at he)
 have hz:(Array.replicate l.length false).size=l.length:=by simp
 have hf:∀i:Nat,(Array.replicate l.length false).getD i false=false:=fun i=>by
  rw[Array.getD_eq_getD_getElem?,Array.getElem?_replicate];split<;>rfl
 have:=MT (P:=P) (c:=c) (H:=H) (Γ:=Γ) (Q:=Q) dx hlen (by simpa using hd) (fun i o x ho hx=>by simpa using eS i o x ho hx) (by rw[←xF];exact k) l.length (Array.replicate l.length false) I a {w with drawn:=w.drawn+1} hz
  (by simpa using List.length_filter_le _ (List.range l.length)) (fun i o ho hi=>by rw[hf] at hi;cases hi) (by
    have he:(dj 0 l xs).reverse.filter (fun e=>(Array.replicate l.length false).getD e.1 false)=[]:=by
     rw[List.filter_eq_nil_iff];intro e _;rw[hf];simp
    rw[he]
    exact⟨⟨hs.step.le,hs.step.eB,hs.step.cE,hs.step.below.drew⟩,⟨fun o ho=>⟨o.fN I I w _ (Im.le_refl I) (fun _ _=>rfl) (hs.own.all o ho).1,(hs.own.all o ho).2⟩,hs.own.nodup⟩,hs.env,hs.size,hs.defers⟩)
 simpa using this
def ij (P:Program) (c:Ctx) (H:List Own) (ops:Array Oper) (Q:Exit→Act→World→Prop) (Γ:Env) (os:List Oper):Prop:=
 ∃xs,j4 P H ops Γ os xs∧∀I' a' w',St c I' H (lK Γ os xs) a' w'→Q .normal a' w'
theorem ij.nil {ops:Array Oper} (k:∀I' a' w',St c I' H Γ a' w'→Q .normal a' w'):ij P c H ops Q Γ []:=⟨[],trivial,k⟩
theorem ij.cons {ops:Array Oper} {o:Oper} {os:List Oper} {x:AV} (h:lJ P H ops (Γ.only (o.looksAt ops)) o x) (k:ij P c H ops Q ((o.dst.getD 0,x)::Γ) os):ij P c H ops Q Γ (o::os):=
 let⟨xs,h1,h2⟩:=k;⟨x::xs,⟨h,h1⟩,h2⟩
theorem St.MV {id:Nat} {l:List Oper} (hs:St c I H Γ a w) (hm:P.follows .mixedOrders=true) (dx:tF l=true) (hd:(l.all fun o=>Nat.blt (o.dst.getD 0) c.n)=true)
 (run:ij P c H l.toArray Q Γ l):(Code.region id l.toArray true).wp P Q a w:=
 let⟨_,h1,h2⟩:=run;hs.draw hm dx hd h1 h2
end
end Go.Proofs.YtoeioeimmfpefaaGreat
