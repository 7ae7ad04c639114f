/- Part 3: rules of the proofs. -/
import Derived.Lib.ItoaNum
import Derived.Laws.BytesString
import Derived.Laws.DeepStrings4
import Derived.Lib.SlBytesRow
import Derived.Lib.Strings
import Derived.Lib.ItoaLen
import Derived.Test.YtldbakcpcfdlaaaGreatP02
set_option linter.all false
namespace Go.Proofs.YtldbakcpcfdlaaaGreat
open Go Go.RowKit
def cy.perm {base:Nat->Prop} {I:Im} {w:World} {H H':List Own} (h:cy base I w H) (hp:H.Perm H'):cy base I w H':=
 ⟨λo ho=>h.all o (hp.mem_iff.2 ho),(hp.pairwise_iff λh=>h.symm).1 h.apart⟩
def cy.left {base:Nat->Prop} {I:Im} {w:World} {H K:List Own} (h:cy base I w (H++K)):cy base I w H:=
 ⟨λo ho=>h.all o (List.mem_append_left _ ho),h.apart.sublist (List.sublist_append_left H K)⟩
abbrev Mk:=Option (Value->Own)
def E4 (P:Program) (H:List Own) (ops:Array Oper) (Γ:Env) (o:Oper) (x:AV) (r:Mk):Prop:=
 ∀(base:Nat->Prop) (I:Im) (a:Act) (w:World) (K:Act->World->Prop) (Q:Exit->Act->World->Prop),dy I a Γ->eM w I->cy base I w H->
  (∀v I' w',x.h I' v->Step I w I' w'->(∀f,r=some f->(f v).ok I' w'/\∀b,(f v).jS b->w.heap.size<=b/\I' b=none/\b<w'.heap.size)->K (a.put o.dst v) w')->
  if Region.wanted o (yielded ops a.tmps) then o.wp P a w K Q else K (a.put o.dst undef) w
def ql.r {P:Program} {H:List Own} {ops:Array Oper} {Γ:Env} {o:Oper} {x:AV} (h:ql P H ops Γ o x):E4 P H ops Γ o x none:=
 λbase I a w K Q he hm hw k=>h base I a w K Q he hm hw λv I' w' hx U=>k v I' w' hx U λf e=>by cases e
def made (S:Nat->Bool) (a:Act):Nat->List Oper->List (AV×Mk)->List Own
 |k,o::os,(_,some f)::xs=>bif S k then f (a.tmps.getD (o.dst.getD 0) undef)::made S a (k+1) os xs else made S a (k+1) os xs
 |k,_::os,(_,none)::xs=>made S a (k+1) os xs
 |_,_,_=>[]
def IX {S:Nat->Bool} {a a':Act}:∀{k:Nat} {os:List Oper} {xs:List (AV×Mk)},(∀(i:Nat) (o:Oper) (x:AV) (f:Value->Own),os[i]?=some o->xs[i]?=some (x,some f)->S (k+i)=true->a.tmps.getD (o.dst.getD 0) undef=a'.tmps.getD (o.dst.getD 0) undef)->made S a k os xs=made S a' k os xs
 |_,[],_,_=>by unfold made;rfl
 |_,_::_,[],_=>by simp[made]
 |k,o::os,(x,some f)::xs,h=>by
  have ih:=IX (S:=S) (a:=a) (a':=a') (k:=k+1) (os:=os) (xs:=xs) λi o' x' f' h1 h2 h3=>h (i+1) o' x' f' (by simpa using h1) (by simpa using h2) (by rw[show k+(i+1)=k+1+i from by omega];exact h3);simp only[made];cases hS:S k
  .exact ih
  rw[h 0 o x f rfl rfl hS,ih]
 |k,o::os,(x,none)::xs,h=>by
  simp only[made];exact IX λi o' x' f' h1 h2 h3=>h (i+1) o' x' f' (by simpa using h1) (by simpa using h2) (by rw[show k+(i+1)=k+1+i from by omega];exact h3)
def wB {S S':Nat->Bool} {a:Act}:∀{k:Nat} {os:List Oper} {xs:List (AV×Mk)},(∀(i:Nat) (o:Oper) (x:AV) (f:Value->Own),os[i]?=some o->xs[i]?=some (x,some f)->S (k+i)=S' (k+i))->made S a k os xs=made S' a k os xs
 |_,[],_,_=>by unfold made;rfl
 |_,_::_,[],_=>by simp[made]
 |k,o::os,(x,some f)::xs,h=>by
  simp only[made];rw[show S k=S' k from h 0 o x f rfl rfl,wB (S:=S) (S':=S') (k:=k+1) (os:=os) (xs:=xs) λi o' x' f' h1 h2=>by
   have:=h (i+1) o' x' f' (by simpa using h1) (by simpa using h2);rw[show k+1+i=k+(i+1) from by omega];exact this]
 |k,o::os,(x,none)::xs,h=>by
  simp only[made];exact wB λi o' x' f' h1 h2=>by
   have:=h (i+1) o' x' f' (by simpa using h1) (by simpa using h2);rw[show k+1+i=k+(i+1) from by omega];exact this
def IY {S:Nat->Bool} {a:Act}:∀{k i:Nat} {os:List Oper} {xs:List (AV×Mk)} {o:Oper} {x:AV} {f:Value->Own},os[i]?=some o->xs[i]?=some (x,some f)->S (k+i)=false->
 (f (a.tmps.getD (o.dst.getD 0) undef)::made S a k os xs).Perm (made (λj=>if j=k+i then true else S j) a k os xs)
 |k,0,o'::os,(x',m)::xs,o,x,f,h1,h2,h3=>by
  simp at h1 h2;obtain⟨rfl,rfl⟩:=h2;subst h1;simp only[made];have Zi:S k=false:=h3;rw[Zi];simp only[Nat.add_zero,if_true,cond_true,cond_false];rw[wB (S:=S) (S':=λj=>if j=k then true else S j) λi o' x' f' _ _=>by rw[if_neg om]]
 |k,i+1,o'::os,(x',some f')::xs,o,x,f,h1,h2,h3=>by
  have ih:=IY (S:=S) (a:=a) (k:=k+1) (i:=i) (os:=os) (xs:=xs) (o:=o) (x:=x) (f:=f) (by simpa using h1) (by simpa using h2) (by rw[show k+1+i=k+(i+1) from by omega];exact h3);rw[show k+1+i=k+(i+1) from by omega] at ih;simp only[made];rw[if_neg om];cases S k
  .exact ih
  exact(List.Perm.swap _ _ _).trans (ih.cons _)
 |k,i+1,o'::os,(x',none)::xs,o,x,f,h1,h2,h3=>by
  have ih:=IY (S:=S) (a:=a) (k:=k+1) (i:=i) (os:=os) (xs:=xs) (o:=o) (x:=x) (f:=f) (by simpa using h1) (by simpa using h2) (by rw[show k+1+i=k+(i+1) from by omega];exact h3);rw[show k+1+i=k+(i+1) from by omega] at ih;simp only[made];exact ih
 |_,_,[],_,_,_,_,h1,_,_=>by simp at h1
 |_,_,_::_,[],_,_,_,_,h2,_=>by simp at h2
def z9 (P:Program) (H:List Own) (ops:Array Oper):Env->List Oper->List (AV×Mk)->Prop
 |_,[],[]=>True
 |Γ,o::os,x::xs=>E4 P H ops (Γ.only (o.looksAt ops)) o x.1 x.2/\z9 P H ops ((o.dst.getD 0,x.1)::Γ) os xs
 |_,_,_=>False
def z9.at {P:Program} {H:List Own} {ops:Array Oper} {Γ0:Env}:∀(os:List Oper) (xs:List (AV×Mk)) (k:Nat) (done:List pt),z9 P H ops (fX done++Γ0) os xs->(∀e∈done,e.1<k)->
 os.length=xs.length/\∀i o x,os[i]?=some o->xs[i]?=some x->E4 P H ops ((fX (((fW k os (xs.map (·.1))).reverse++done).filter λe=>decide (e.1<k+i))++Γ0).only (o.looksAt ops)) o x.1 x.2
 |[],[],_,_,_,_=>⟨rfl,λi o x h=>by simp at h⟩
 |o::os,x::xs,k,done,h,hd=>by
  obtain⟨h1,h2⟩:=h;have ih:=z9.at os xs (k+1) ((k,o.dst.getD 0,x.1)::done) h2 (λe he=>by
   rcases List.mem_cons.1 he with rfl|he
   .simp
   have:=hd e he;omega)
  refine⟨by simp[ih.1],λi o' x' ho hx=>?_⟩;have B0:(fW k (o::os) ((x::xs).map (·.1))).reverse++done=(fW (k+1) os (xs.map (·.1))).reverse++((k,o.dst.getD 0,x.1)::done):=by simp[fW]
  rw[B0];cases i with
  |zero=>
   simp at ho hx;subst ho hx
   have hf:((fW (k+1) os (xs.map (·.1))).reverse++((k,o.dst.getD 0,x.1)::done)).filter (λe=>decide (e.1<k+0))=done:=by
    rw[List.filter_append];have e1:(fW (k+1) os (xs.map (·.1))).reverse.filter (λe=>decide (e.1<k+0))=[]:=by
     rw[List.filter_eq_nil_iff];intro e he;have:=(ER (k+1) os (xs.map (·.1))).2 e (List.mem_reverse.1 he);simp;omega
    rw[e1,List.filter_cons];simp only[Nat.add_zero,Nat.lt_irrefl,decide_false,Bool.false_eq_true,if_false,List.nil_append];rw[List.filter_eq_self];intro e he;simpa using hd e he
   rw[hf];exact h1
  |succ i=>
   have:=ih.2 i o' x' (by simpa using ho) (by simpa using hx)
   rw[show k+(i+1)=k+1+i from by omega]
   exact this
 |[],_::_,_,_,h,_=>h.elim
 |_::_,[],_,_,h,_=>h.elim
def oA (pre tail:List Oper):Bool:=
 let l:=pre++tail
 let C:=kf [] l
 let p:=pre.length
 (l.zipIdx.all λ(o,i)=>(o.after.toList.all λe=>!Region.binds .any e||Nat.blt e.on i))&&
 (pre.zipIdx.all λ(o,i)=>o.dst.isSome&&
   ((slotsOf l.toArray o).all λt=>pre.zipIdx.all λ(o',j)=>Nat.beq i j||!(o'.dst==some t)||(if j<i then(C.getD i []).contains j else(C.getD j []).contains i))&&
   (pre.zipIdx.all λ(o',j)=>Nat.beq i j||!(o'.dst==o.dst)))&&
 (List.range tail.length).all λi=>(List.range (p+i)).all λj=>(C.getD (p+i) []).contains j
def IZ {pre tail:List Oper} (h:oA pre tail=true) {i:Nat} {o:Oper} (ho:(pre++tail)[i]?=some o):∀e∈o.after.toList,Region.binds .any e=true->e.on<i:=λe he hb=>by
 simp only[oA,List.all_eq_true,Bool.and_eq_true] at h;have hm:(o,i)∈(pre++tail).zipIdx:=by rw[List.mem_zipIdx_iff_getElem?];exact ho
 have:=h.1.1 _ hm e he;rw[hb] at this;simpa using this
def I4 {pre tail:List Oper} (h:oA pre tail=true) {i:Nat} {o:Oper} (ho:pre[i]?=some o):
 (∃d,o.dst=some d)/\(∀t∈slotsOf (pre++tail).toArray o,∀j o',pre[j]?=some o'->i≠j->o'.dst=some t->if j<i then j∈(kf [] (pre++tail)).getD i [] else i∈(kf [] (pre++tail)).getD j [])/\
 ∀j o',pre[j]?=some o'->i≠j->o'.dst≠o.dst:=by
 simp only[oA,List.all_eq_true,Bool.and_eq_true] at h;have hm:(o,i)∈pre.zipIdx:=by rw[List.mem_zipIdx_iff_getElem?];exact ho
 obtain⟨⟨h1,h3⟩,h4⟩:=h.1.2 _ hm;have hb:∀j,i≠j->Nat.beq i j=false:=λj aW=>by
  cases hb:Nat.beq i j with
  |false=>rfl
  |true=>exact absurd (Nat.eq_of_beq_eq_true hb) aW
 refine⟨Option.isSome_iff_exists.1 h1,λt ht j o' l5 aW hd=>?_,λj o' l5 aW hd=>?_⟩
 .have lX:(o',j)∈pre.zipIdx:=by rw[List.mem_zipIdx_iff_getElem?];exact l5
  have:=h3 t ht _ lX;simp only[hb j aW,hd,Bool.false_or] at this;have h5:(!(some t==some t))=false:=by simp
  rw[h5,Bool.false_or] at this;split
  .rename_i bz;rw[if_pos bz] at this;simpa using this
  rename_i bz;rw[if_neg bz] at this;simpa using this
 have lX:(o',j)∈pre.zipIdx:=by rw[List.mem_zipIdx_iff_getElem?];exact l5
 have:=h4 _ lX;simp only[hb j aW,hd,Bool.false_or] at this;simp at this
def I5 {pre tail:List Oper} (h:oA pre tail=true) {i j:Nat} (hi:pre.length<=i) (jg:i<(pre++tail).length) (hj:j<i):j∈(kf [] (pre++tail)).getD i []:=by
 simp only[oA,List.all_eq_true,Bool.and_eq_true] at h;have:=h.2 (i-pre.length) (by simp at jg⊢;omega) j ig;rw[show pre.length+(i-pre.length)=i from by omega] at this;simpa using this
section
variable {P:Program} {c:Ctx} {I:Im} {H:List Own} {Γ:Env} {a:Act} {w:World} {Q:Exit->Act->World->Prop}
def Aa {listed:Array Bool} {i:Nat} (h:i<listed.size):listed.getD i true=listed.getD i false:=by simp[h]
def I6 {pre tail:List Oper} {listed:Array Bool} (db:listed.size=(pre++tail).length)
 (bq:∀(i:Nat) (o:Oper),(pre++tail)[i]?=some o->listed.getD i false=true->∀e∈o.after.toList,Region.binds .any e=true->listed.getD e.on false=true) {i:Nat} {o:Oper} (ho:(pre++tail)[i]?=some o)
 (h3:∀e∈o.after.toList,Region.binds .any e=true->listed.getD e.on false=true):∀j,j≠i->j∈(kf [] (pre++tail)).getD i []->listed.getD j false=true:=λj Cc hj=>by
 have bz:i<(pre++tail).length:=(List.getElem?_eq_some_iff.1 ho).1;have km:∀j,(listed.setIfInBounds i true).getD j false=if j=i then true else listed.getD j false:=λj=>ES om false
 have Zj:=EP (S:=λj=>(listed.setIfInBounds i true).getD j false) (pre++tail) [] (λi k hk=>by simp at hk) (λi' o' l5 r7 e he hb=>by
  have jg:(listed.setIfInBounds i true).getD i' false=true:=by simpa using r7
  show(listed.setIfInBounds i true).getD e.on false=true;rw[km] at jg⊢;split
  .rfl
  split at jg
  .rename_i Cd;subst Cd;rw[ho] at l5;cases l5;exact h3 e he hb
  exact bq i' o' l5 jg e he hb)
 have h':=Zj i j hj (by show(listed.setIfInBounds i true).getD i false=true;rw[km];simp);have Zk:(listed.setIfInBounds i true).getD j false=true:=h';rwa[km,if_neg Cc] at Zk
def E5 {pre tail:List Oper} (hE:∀{i:Nat} {o:Oper},(pre++tail)[i]?=some o->∀e∈o.after.toList,Region.binds .any e=true->e.on<i)
 (hT:∀{i j:Nat},pre.length<=i->i<(pre++tail).length->j<i->j∈(kf [] (pre++tail)).getD i []):∀(m j:Nat) (listed:Array Bool) (fuel:Nat) (a:Act) (w:World),(pre++tail).length-j=m->pre.length<=j->j<=(pre++tail).length->m<=fuel->listed.size=(pre++tail).length->
 (∀i,i<(pre++tail).length->(listed.getD i false=true↔i<j))->wpList P (pre++tail).toArray Q ((pre++tail).drop j) a w->wpAny P .any (pre++tail).toArray Q fuel listed a w:=by
 intro m;induction m with
 |zero=>
  intro j listed fuel a w hm hp hj hf db hl h
  have uY:j=(pre++tail).length:=by omega
  have py:(pre++tail).drop j=[]:=by rw[uY];simp
  rw[py] at h
  have P2:Region.ready .any (pre++tail).toArray listed=[]:=by
   rw[List.eq_nil_iff_forall_not_mem];intro i hi;obtain⟨h1,o,h2,_⟩:=mem_ready.1 hi;have bz:i<(pre++tail).length:=by have:=(Array.getElem?_eq_some_iff.1 h2).1;simpa using this
   have h4:=(hl i bz).2 om;have h5:listed.getD i true=listed.getD i false:=Aa om;rw[h5,h4] at h1;cases h1
  cases fuel with
  |zero=>exact⟨P2,h⟩
  |succ fuel=>exact⟨λ_=>h,λi hi=>by rw[P2] at hi;cases hi⟩
 |succ m ih=>
  intro j listed fuel a w hm hp hj hf db hl h
  have mo:j<(pre++tail).length:=by omega
  cases fuel with
  |zero=>omega
  |succ fuel=>
   have bq:∀(i:Nat) (o:Oper),(pre++tail)[i]?=some o->listed.getD i false=true->∀e∈o.after.toList,Region.binds .any e=true->listed.getD e.on false=true:=λi o ho hi e he hb=>by
    have bz:i<(pre++tail).length:=(List.getElem?_eq_some_iff.1 ho).1;have h1:=(hl i bz).1 hi;have h2:=hE ho e he hb;exact(hl e.on om).2 om
   have hd:∀i,i<(pre++tail).length->listed.getD i true=listed.getD i false:=λi hi=>Aa om
   have Zl:∀i∈Region.ready .any (pre++tail).toArray listed,i=j:=λi hi=>by
    obtain⟨h1,o,h2,h3⟩:=mem_ready.1 hi;have bz:i<(pre++tail).length:=by have:=(Array.getElem?_eq_some_iff.1 h2).1;simpa using this
    have ho:(pre++tail)[i]?=some o:=by simpa using h2
    have Ab:¬i<j:=λh'=>by rw[hd i bz,(hl i bz).2 h'] at h1;cases h1
    by_cases j5:i=j
    .exact j5
    have hb:=I6 db bq ho (λe he hb=>h3 e (by simpa using he) hb) j (λe=>j5 e.symm) (hT om bz om);have:=(hl j mo).1 hb;omega
   refine⟨λhr=>?_,λi hi=>?_⟩
   .exfalso
    have:j∈Region.ready .any (pre++tail).toArray listed:=by
     refine mem_ready.2 ⟨?_,(pre++tail)[j],by simp[mo],λe he hb=>?_⟩
     .rw[hd j mo];cases hb:listed.getD j false with
      |false=>rfl
      |true=>have:=(hl j mo).1 hb;omega
     have h2:=hE (i:=j) (o:=(pre++tail)[j]) (by simp[mo]) e (by simpa using he) hb;exact(hl e.on om).2 h2
    rw[hr] at this;cases this
   obtain rfl:=Zl i hi
   have py:(pre++tail).drop i=(pre++tail)[i]::(pre++tail).drop (i+1):=List.drop_eq_getElem_cons mo
   rw[py] at h
   have P3:∀a w,wpList P (pre++tail).toArray Q ((pre++tail).drop (i+1)) a w->wpAny P .any (pre++tail).toArray Q fuel (listed.setIfInBounds i true) a w:=λa w h'=>
    ih (i+1) (listed.setIfInBounds i true) fuel a w om om om om (by simpa using db) (λk hk=>by
     rw[ES om];split
     .rename_i e;subst e;simp
     rename_i e;rw[hl k hk];omega) h'
   unfold wpOp
   have hg:(pre++tail).toArray[i]?=some (pre++tail)[i]:=by simp[mo]
   simp only[hg]
   unfold wpList at h
   by_cases hw:Region.wanted (pre++tail)[i] (yielded (pre++tail).toArray a.tmps)=true
   .rw[if_pos hw] at h⊢;exact h.imp (Oper.wp_mono P3) id
   rw[if_neg hw] at h⊢;exact P3 _ _ h
def P4 {pre tail:List Oper} {listed:Array Bool} {n:Nat} (hf:((List.range (pre++tail).length).filter λi=>!listed.getD i false).length<=n) (pz:∀i,i<(pre++tail).length->listed.getD i false=true->i<pre.length) (aM:∀i,i<pre.length->listed.getD i false=true):(pre++tail).length-pre.length<=n:=by
 have h1:((List.range (pre++tail).length).filter λi=>!listed.getD i false)=(List.range (pre++tail).length).filter λi=>decide (pre.length<=i):=by
  apply List.filter_congr;intro i hi;have r7:i<(pre++tail).length:=by simpa using hi
  cases hb:listed.getD i false with
  |true=>have:=pz i r7 hb;simp;omega
  |false=>
   have:¬i<pre.length:=λh=>by rw[aM i h] at hb;cases hb
   simp;omega
 rw[h1] at hf;have h2:((List.range (pre++tail).length).filter λi=>decide (pre.length<=i)).length=(pre++tail).length-pre.length:=by
  have:(List.range (pre++tail).length)=List.range pre.length++(List.range tail.length).map (pre.length+·):=by
   rw[List.length_append,List.range_add]
  rw[this,List.filter_append];have a1:(List.range pre.length).filter (λi=>decide (pre.length<=i))=[]:=by
   rw[List.filter_eq_nil_iff];intro i hi;simp at hi⊢;omega
  have a2:((List.range tail.length).map (pre.length+·)).filter (λi=>decide (pre.length<=i))=(List.range tail.length).map (pre.length+·):=by
   rw[List.filter_eq_self];intro i hi;simp at hi⊢;omega
  rw[a1,a2];simp
 omega
def Zm {pre tail:List Oper} {xs:List (AV×Mk)} (gU:oA pre tail=true) (hlen:pre.length=xs.length) (hd:∀o∈pre,Nat.blt (o.dst.getD 0) c.n=true)
 (run:∀i o x,pre[i]?=some o->xs[i]?=some x->E4 P H (pre++tail).toArray ((fX ((fW 0 pre (xs.map (·.1))).reverse.filter λe=>decide (e.1<i))++Γ).only (o.looksAt (pre++tail).toArray)) o x.1 x.2)
 (k:∀I' a' w',St c I' (H++made (λ_=>true) a' 0 pre xs) (fX (fW 0 pre (xs.map (·.1))).reverse++Γ) a' w'->wpList P (pre++tail).toArray Q tail a' w'):
 ∀(fuel:Nat) (listed:Array Bool) (I:Im) (a:Act) (w:World),listed.size=(pre++tail).length->((List.range (pre++tail).length).filter λi=>!listed.getD i false).length<=fuel->
  (∀i,i<(pre++tail).length->listed.getD i false=true->i<pre.length)->
  (∀(i:Nat) (o:Oper),(pre++tail)[i]?=some o->listed.getD i false=true->∀e∈o.after.toList,Region.binds .any e=true->listed.getD e.on false=true)->
  St c I (H++made (λi=>listed.getD i false) a 0 pre xs) (fX ((fW 0 pre (xs.map (·.1))).reverse.filter λe=>listed.getD e.1 false)++Γ) a w->wpAny P .any (pre++tail).toArray Q fuel listed a w:=by
 have hL:(fW 0 pre (xs.map (·.1))).reverse.Pairwise (λe f=>f.1<e.1):=by
  rw[List.pairwise_reverse];exact(ER 0 pre (xs.map (·.1))).1
 have tC:∀e∈(fW 0 pre (xs.map (·.1))).reverse,∃o',pre[e.1]?=some o'/\o'.dst=some e.2.1:=λe he=>by
  obtain⟨j,o',g1,_,g3,g4⟩:=PC (List.mem_reverse.1 he);obtain⟨d',ko⟩:=(I4 gU g1).1;refine⟨o',by rw[g3,Nat.zero_add];exact g1,?_⟩;rw[g4,ko];rfl
 intro fuel;induction fuel with
 |zero=>
  intro listed I a w db hf pz bq U
  have h0:∀i,i<(pre++tail).length->listed.getD i false=true:=λi hi=>by
   have:(List.range (pre++tail).length).filter (λi=>!listed.getD i false)=[]:=List.eq_nil_of_length_eq_zero om;rw[List.filter_eq_nil_iff] at this;simpa using this i (by simpa using hi)
  have j7:tail=[]:=by
   rcases tail with _|⟨t,ts⟩
   .rfl
   have:=pz pre.length bn (h0 pre.length bn);omega
  have e1:(fW 0 pre (xs.map (·.1))).reverse.filter (λe=>listed.getD e.1 false)=(fW 0 pre (xs.map (·.1))).reverse:=by
   rw[List.filter_eq_self];intro e he;obtain⟨o',h1,_⟩:=tC e he;have:=(List.getElem?_eq_some_iff.1 h1).1;exact h0 e.1 ig
  have e2:made (λi=>listed.getD i false) a 0 pre xs=made (λ_=>true) a 0 pre xs:=wB λi o x f h1 h2=>by
   have:=(List.getElem?_eq_some_iff.1 h1).1;rw[Nat.zero_add];exact h0 i ig
  rw[e1,e2] at U
  have hw:=k I a w U
  exact E5 (IZ gU) (I5 gU) 0 (pre++tail).length listed 0 a w om bn om om db (λi hi=>⟨λ_=>hi,λ_=>h0 i hi⟩) (by subst j7;simpa using hw)
 |succ fuel ih=>
  intro listed I a w db hf pz bq U
  by_cases aM:∀i,i<pre.length->listed.getD i false=true
  .have e1:(fW 0 pre (xs.map (·.1))).reverse.filter (λe=>listed.getD e.1 false)=(fW 0 pre (xs.map (·.1))).reverse:=by
    rw[List.filter_eq_self];intro e he;obtain⟨o',h1,_⟩:=tC e he;exact aM e.1 (List.getElem?_eq_some_iff.1 h1).1
   have e2:made (λi=>listed.getD i false) a 0 pre xs=made (λ_=>true) a 0 pre xs:=wB λi o x f h1 h2=>by
    rw[Nat.zero_add];exact aM i (List.getElem?_eq_some_iff.1 h1).1
   rw[e1,e2] at U
   have P5:=P4 hf pz aM
   refine E5 (IZ gU) (I5 gU) _ pre.length listed (fuel+1) a w rfl om bn P5 db (λi hi=>⟨pz i hi,aM i⟩) ?_
   rw[List.drop_left]
   exact k I a w U
  have Ce:∃i0,i0<pre.length/\listed.getD i0 false=false:=by
   refine Classical.byContradiction λhn=>aM λi hi=>?_;cases hb:listed.getD i false with
   |true=>rfl
   |false=>exact absurd ⟨i,hi,hb⟩ hn
  obtain⟨i0,Cf,uZ⟩:=Ce
  refine⟨λhr=>?_,λi hi=>?_⟩
  .exfalso
   have:∀i,i<(pre++tail).length->listed.getD i false=true:=λi=>by
    induction i using Nat.strongRecOn with
    |_ i BX=>
     intro hi
     cases hl:listed.getD i false with
     |true=>rfl
     |false=>
      have dr:i∈Region.ready .any (pre++tail).toArray listed:=by
       refine mem_ready.2 ⟨by rw[Aa om];exact hl,(pre++tail)[i],by simp[hi],λe he hb=>?_⟩;have bz:=IZ gU (i:=i) (o:=(pre++tail)[i]) (by simp[hi]) e (by simpa using he) hb;exact BX e.on bz om
      rw[hr] at dr;cases dr
   rw[this i0 ig] at uZ;cases uZ
  obtain⟨h1,o,h2,h3⟩:=mem_ready.1 hi
  have bz:i<(pre++tail).length:=by have:=(Array.getElem?_eq_some_iff.1 h2).1;simpa using this
  have lF:(pre++tail)[i]?=some o:=by simpa using h2
  rw[Aa om] at h1
  have aK:=I6 db bq lF (λe he hb=>h3 e (by simpa using he) hb)
  have P6:i<pre.length:=by
   refine Classical.byContradiction λhn=>?_;have:=aK i0 om (I5 gU om bz om);rw[this] at uZ;cases uZ
  have ho:pre[i]?=some o:=by rw[List.getElem?_append_left P6] at lF;exact lF
  obtain⟨⟨d,xX⟩,E6,P7⟩:=I4 gU ho
  have I7:=EP (S:=λj=>listed.getD j false) (pre++tail) [] (λi k hk=>by simp at hk) (λi o ho hi e he hb=>bq i o ho (by simpa using hi) e he hb)
  have xY:∀j,i∈(kf [] (pre++tail)).getD j []->listed.getD j false=false:=λj hj=>by
   cases hb:listed.getD j false with
   |false=>rfl
   |true=>rw[I7 j i hj hb] at h1;cases h1
  have km:∀j,(listed.setIfInBounds i true).getD j false=if j=i then true else listed.getD j false:=λj=>ES om false
  have I8:∀(i':Nat) (o':Oper),(pre++tail)[i']?=some o'->(listed.setIfInBounds i true).getD i' false=true->∀e∈o'.after.toList,Region.binds .any e=true->(listed.setIfInBounds i true).getD e.on false=true:=λi' o' l5 jg e he hb=>by
   rw[km] at jg⊢;split
   .rfl
   split at jg
   .rename_i Cd;subst Cd;rw[lF] at l5;cases l5;exact h3 e (by simpa using he) hb
   exact bq i' o' l5 jg e he hb
  have np:i<xs.length:=by omega
  have nZ:xs[i]?=some xs[i]:=by simp[np]
  generalize xs[i]=x at nZ
  obtain⟨x,r⟩:=x
  have Zn:(xs.map (·.1))[i]?=some x:=by simp[nZ]
  have kj:=run i o (x,r) ho nZ
  have I9:dy I a ((fX ((fW 0 pre (xs.map (·.1))).reverse.filter λe=>decide (e.1<i))++Γ).only (o.looksAt (pre++tail).toArray)):=λt y e=>by
   obtain⟨g1,g2⟩:=Env.IB e;have ht:t∈slotsOf (pre++tail).toArray o:=by
    unfold slotsOf;rw[List.mem_append];exact .inr (by simpa using g2)
   rw[BZ (q:=λe=>listed.getD e.1 false) _ (λe he r9=>?_)] at g1
   .exact U.env t y g1
   obtain⟨o',k1,k2⟩:=tC e he;by_cases xZ:e.1=i
   .rw[xZ,h1];simp
   have:=E6 t ht e.1 o' k1 (λh=>xZ h.symm) (by rw[k2,r9]);split at this
   .rename_i pB;rw[aK e.1 xZ this];simpa using pB
   rename_i pB;rw[xY e.1 this];simpa using pB
  have Ja:((List.range (pre++tail).length).filter λj=>!(listed.setIfInBounds i true).getD j false).length<=fuel:=by
   have:=filter_lt (l:=List.range (pre++tail).length) (p:=λj=>!listed.getD j false) (q:=λj=>!(listed.setIfInBounds i true).getD j false) (i:=i) (by simpa using bz) (by simp only[h1];rfl) (by simp only[km];simp) (λj hj=>by
    simp only[km] at hj;split at hj
    .cases hj
    exact hj)
   omega
  have Jb:∀j,j<(pre++tail).length->(listed.setIfInBounds i true).getD j false=true->j<pre.length:=λj hj hb=>by
   rw[km] at hb;split at hb
   .rename_i e;subst e;exact P6
   exact pz j hj hb
  have px:(i,d,x)∈(fW 0 pre (xs.map (·.1))).reverse:=by
   rw[List.mem_reverse];have:=YM (k:=0) ho Zn;rwa[xX,Nat.zero_add] at this
  unfold wpOp
  simp only[h2]
  have l6:=kj c.own I a w (wpAny P .any (pre++tail).toArray Q fuel (listed.setIfInBounds i true)) Q I9 U.step.dF U.own.left (λv I' w' hv st Zo=>by
   refine ih (listed.setIfInBounds i true) I' _ w' (by simpa using db) Ja Jb I8 ?_;rw[xX];have tD:d<c.n:=by
    have:=hd o (List.mem_of_getElem? ho);rw[xX] at this;simpa using this
   have qt:=U.put (d:=d) (x:=x) (v:=v) tD hv st;have lg:made (λi=>listed.getD i false) a 0 pre xs=made (λi=>listed.getD i false) (a.put (some d) v) 0 pre xs:=IX λj o' x' f' g1 g2 g3=>by
    have Cc:j≠i:=λe=>by subst e;rw[Nat.zero_add,h1] at g3;cases g3
    have aW:=P7 j o' g1 (λe=>Cc e.symm);obtain⟨d',ko⟩:=(I4 gU g1).1;have wC:d≠d':=λe=>aW (by rw[ko,xX,e]);rw[ko];simp[Act.put,wC]
   have eH:cy c.own I' w' (H++made (λj=>(listed.setIfInBounds i true).getD j false) (a.put (some d) v) 0 pre xs):=by
    have h6:=qt.own;rw[lg] at h6;cases r with
    |none=>
     have e3:made (λj=>(listed.setIfInBounds i true).getD j false) (a.put (some d) v) 0 pre xs=made (λi=>listed.getD i false) (a.put (some d) v) 0 pre xs:=wB λj o' x' f' g1 g2=>by
      have Cc:j≠i:=λe=>by subst e;rw[nZ] at g2;cases g2
      rw[Nat.zero_add,km,if_neg Cc]
     rw[e3];exact h6
    |some f=>
     obtain⟨ao,lD⟩:=Zo f rfl
     have dU:(a.put (some d) v).tmps.getD d undef=v:=by simp[Act.put,U.size,tD]
     have hp:=IY (S:=λi=>listed.getD i false) (a:=a.put (some d) v) (k:=0) ho nZ (by rw[Nat.zero_add];exact h1)
     rw[xX] at hp
     simp only[Option.getD_some,dU] at hp
     have e4:made (λj=>if j=0+i then true else listed.getD j false) (a.put (some d) v) 0 pre xs=made (λj=>(listed.setIfInBounds i true).getD j false) (a.put (some d) v) 0 pre xs:=wB λj o' x' f' g1 g2=>by
      rw[km];simp
     rw[e4] at hp
     have h7:cy c.own I' w' (f v::(H++made (λi=>listed.getD i false) (a.put (some d) v) 0 pre xs)):=by
      refine⟨λo ho=>?_,?_⟩
      .rcases List.mem_cons.1 ho with rfl|ho
       .exact⟨ao,λb e=>by
         obtain⟨q1,q2,q3⟩:=lD b e;exact⟨.inl (Nat.le_trans U.step.below.size q1),q2,q3⟩⟩
       exact h6.all o ho
      refine List.pairwise_cons.2 ⟨λy hy b e e'=>?_,h6.apart⟩;rw[<-lg] at hy;have:=((U.own.all y hy).2 b e').2.2;have:=(lD b e).1;omega
     exact h7.perm ((List.perm_middle.symm).trans (hp.append_left H))
   refine⟨qt.step,eH,?_,qt.size,qt.defers⟩;intro t y e;refine qt.env t y ?_;by_cases u5:t=d
   .subst u5;rw[IC (i:=i) (x:=x) _ hL px (by simp only[km];simp) (λe he hp r9=>?_)] at e
    .rw[<-e];simp[Env.get]
    obtain⟨o',k1,k2⟩:=tC e he;by_cases hle:e.1<=i
    .exact hle
    have aW:e.1≠i:=by omega
    exact absurd (by rw[k2,r9,xX]) (P7 e.1 o' k1 (λh=>aW h.symm))
   rw[BZ (q:=λe=>listed.getD e.1 false) _ (λe he r9=>?_)] at e
   .have hb:Nat.beq d t=false:=by
     cases hb:Nat.beq d t with
     |false=>rfl
     |true=>exact absurd (Nat.eq_of_beq_eq_true hb).symm u5
    simp only[Env.get,hb,cond_false];exact e
   obtain⟨o',k1,k2⟩:=tC e he;have aW:e.1≠i:=λh=>by
    rw[h,ho] at k1;cases k1;rw[xX] at k2;cases k2;exact u5 r9.symm
   simp only[km,if_neg aW])
  by_cases hw:Region.wanted o (yielded (pre++tail).toArray a.tmps)=true
  .rw[if_pos hw] at l6⊢;exact .inl l6
  rw[if_neg hw] at l6⊢;exact l6
end
structure cE where
 time:Int
 site:Int
deriving DecidableEq,Inhabited
structure aw where
 key:Int
 ar:cE
deriving DecidableEq,Inhabited
structure aA where
 key:Int
 ar:cE
 val:Int
 aj:Int
 call:Int
 aQ:List aw
deriving DecidableEq,Inhabited
structure az where
 kind:Int
 aT:Int
 to:Int
 call:Int
 key:Int
 ar:cE
 val:Int
 yes:Bool
 aQ:List aw
 slot:Int
 bw:Int
 an:List aA
 waits:List aA
 aE:List aw
deriving DecidableEq,Inhabited
structure de where
 bw:Int
 cm:Int
deriving DecidableEq,Inhabited
structure Server where
 site:Int
 up:Bool
 aD:List de
 an:List aA
 waits:List aA
 aE:List aw
 ba:List aw
deriving DecidableEq,Inhabited
structure Answer where
 key:Int
 yes:Bool
 aY:aA
deriving DecidableEq,Inhabited
structure Call where
 aj:Int
 num:Int
 kind:Int
 keys:List Int
 val:Int
 ctx:List aw
 bH:Int
 end_:Int
 over:Bool
 ar:cE
 au:List Answer
 aL:List aw
deriving DecidableEq,Inhabited
structure ai where
 time:Int
 aC:List Server
 al:List az
 calls:List Call
 seen:List (List aw)
deriving DecidableEq,Inhabited
structure Ev where
 kind:Int
 at_:Int
 aj:Int
 word:Int
 gi:Int
 slot:Int
 call:Int
 a:Int
 b:Int
 c:Int
 val:Int
deriving DecidableEq,Inhabited
def cE.cells (s:cE):List AV:=[.int s.time,.int s.site]
def aw.cells (d:aw):List AV:=[.int d.key,.int d.ar.time,.int d.ar.site]
def bE (l:List aw):AV:=.rows 3 (l.map aw.cells)
def aA.cells (v:aA):List AV:=[.int v.key,.int v.ar.time,.int v.ar.site,.int v.val,.int v.aj,.int v.call,bE v.aQ]
def bU (l:List aA):AV:=.rows 7 (l.map aA.cells)
def az.cells (w:az):List AV:=[.int w.kind,.int w.aT,.int w.to,.int w.call,.int w.key,.int w.ar.time,.int w.ar.site,.int w.val,.bool w.yes,bE w.aQ,.int w.slot,.int w.bw,bU w.an,bU w.waits,bE w.aE]
def dM (l:List az):AV:=.rows 15 (l.map az.cells)
def de.cells (s:de):List AV:=[.int s.bw,.int s.cm]
def tE (l:List de):AV:=.rows 2 (l.map de.cells)
def Server.cells (s:Server):List AV:=[.int s.site,.bool s.up,tE s.aD,bU s.an,bU s.waits,bE s.aE,bE s.ba]
def lG (l:List Server):AV:=.rows 7 (l.map Server.cells)
def Answer.cells (a:Answer):List AV:=[.int a.key,.bool a.yes,.int a.aY.key,.int a.aY.ar.time,.int a.aY.ar.site,.int a.aY.val,.int a.aY.aj,.int a.aY.call,bE a.aY.aQ]
def sd (l:List Answer):AV:=.rows 9 (l.map Answer.cells)
def E7 (k:Int):List AV:=[.int k]
def jt (l:List Int):AV:=.rows 1 (l.map E7)
def Call.cells (c:Call):List AV:=[.int c.aj,.int c.num,.int c.kind,jt c.keys,.int c.val,bE c.ctx,.int c.bH,.int c.end_,.bool c.over,.int c.ar.time,.int c.ar.site,sd c.au,bE c.aL]
def iL (l:List Call):AV:=.rows 13 (l.map Call.cells)
def gy (l:List aw):List AV:=[bE l]
def j8 (l:List (List aw)):AV:=.rows 1 (l.map gy)
def ai.cells (w:ai):List AV:=[.int w.time,lG w.aC,dM w.al,iL w.calls,j8 w.seen]
def Ev.cells (e:Ev):List AV:=[.int e.kind,.int e.at_,.int e.aj,.int e.word,.int e.gi,.int e.slot,.int e.call,.int e.a,.int e.b,.int e.c,.int e.val]
def Jc (l:List Ev):AV:=.rows 11 (l.map Ev.cells)
def cE.av (s:cE):AV:=.agg s.cells
def aw.av (s:aw):AV:=.agg s.cells
def aA.av (s:aA):AV:=.agg s.cells
def az.av (s:az):AV:=.agg s.cells
def de.av (s:de):AV:=.agg s.cells
def Server.av (s:Server):AV:=.agg s.cells
def Answer.av (s:Answer):AV:=.agg s.cells
def Call.av (s:Call):AV:=.agg s.cells
def ai.av (s:ai):AV:=.agg s.cells
def Ev.av (s:Ev):AV:=.agg s.cells
end Go.Proofs.YtldbakcpcfdlaaaGreat
namespace Go.Proofs.YtldbakcpcfdlaaaGreat
def gV (n:Int):Prop:=-9223372036854775808<=n/\n<=9223372036854775807
def aJ (n low high:Int):Bool:=decide (low<=n)&&decide (n<=high)
def cM (n:Int):Bool:=aJ n 0 3
def du (n:Int):Bool:=aJ n 0 5
def eF (n:Int):Bool:=aJ n 0 1
def dB (s:cE):Bool:=aJ s.time 1 9999&&cM s.site
def bQ (a b:cE):Bool:=decide (a.time<b.time)||(a.time==b.time&&decide (a.site<b.site))
def dw (s:cE):Bool:=s.time==0&&s.site==0
def mq (s:cE):Bool:=dw s||dB s
def bM (n:Int):Int:=if cM n then n/2 else-1
def eQ (a b:aw):Bool:=decide (a.key<b.key)||(a.key==b.key&&bQ a.ar b.ar)
def ez (last:Int):List aw->Bool
 |[]=>true
 |d::r=>aJ d.key (last+1) 5&&dB d.ar&&ez d.key r
def bT (l:List aw):Bool:=ez (-1) l
def cI (n:Nat) (f:Nat->Bool):Bool:=decide (∀i,i<n->f i=true)
def eX {n k:Nat} {f:Nat->Bool} (h:∀i,i<k->f i=true) (hk:n<=k):cI n f=true:=by
 simp only[cI,decide_eq_true_eq];exactλi hi=>h i om
def eI {n k:Nat} {f:Nat->Bool} (hk:k<n) (h:f k=false):cI n f=false:=by
 simp only[cI,decide_eq_false_iff_not];exactλhh=>by rw[hh k hk] at h;cases h
def eY {k:Nat} {f:Nat->Bool} (h:∀i,i<k->f i=true) (hf:f k=true):∀i,i<k+1->f i=true:=λi hi=>by
 by_cases e:i=k
 .subst e;exact hf
 exact h i om
def gF {n:Nat} {f:Nat->Bool}:cI n f=true↔∀i,i<n->f i=true:=by simp[cI]
def Ac {n m:Nat} {f g:Nat->Bool} (hn:n=m) (h:∀i,i<n->f i=g i):cI n f=cI m g:=by
 subst hn;rw[Bool.eq_iff_iff,gF,gF];exact⟨λk i hi=>by rw[<-h i hi];exact k i hi,λk i hi=>by rw[h i hi];exact k i hi⟩
def fO {α:Type} [Inhabited α] (aN:α->Bool) (less:α->α->Bool) (l:List α) (k:Nat):Bool:=aN (ab l k)&&(decide (k=0)||less (ab l (k-1)) (ab l k))
def wD {α:Type} [Inhabited α] (aN:α->Bool) (less:α->α->Bool) (l:List α) (k:Nat):
 (!aN (ab l k)||(decide (0<(k:Int))&&!less (ab l ((k:Int)-1).toNat) (ab l k)))=!fO aN less l k:=by
 rw[show((k:Int)-1).toNat=k-1 from by omega];unfold fO;rcases Nat.eq_zero_or_pos k with rfl|h
 .simp
 have h2:k≠0:=by omega
 have h3:0<k:=h;simp[h2,h3]
def E8 (t:Int) (l:List aw):Bool:=cI l.length λi=>decide ((ab l i).ar.time<t)
def dN (v:aA):Bool:=du v.key&&dB v.ar&&aJ v.val 0 9999&&eF v.aj&&aJ v.call 1 99&&bT v.aQ&&E8 v.ar.time v.aQ
def aA.aU (v:aA):aw:=⟨v.key,v.ar⟩
def fP (a b:aA):Bool:=eQ a.aU b.aU
def ct (l:List aA):Bool:=decide (l.length<=80)&&cI l.length (fO dN fP l)
def kO (d:aw):Bool:=du d.key&&dB d.ar
def gz (l:List aw):Bool:=decide (l.length<=80)&&cI l.length (fO kO eQ l)
def lH (n:Int):Bool:=cM n||aJ n 10 11
def bK (w:az):Bool:=
 aJ w.kind 1 10&&lH w.aT&&lH w.to&&aJ w.call 0 99&&du w.key&&mq w.ar&&aJ w.val 0 9999&&bT w.aQ&&aJ w.slot 0 2&&aJ w.bw 0 9999&&
  ct w.an&&ct w.waits&&gz w.aE
def cV (key:Int):Int:=if du key then key*3/6 else-1
open Go
def dec (n:Int):List UInt8:=Lib.itoa n
def written (n:Int):Bool:=aJ n 0 99999
def Ev.ints (e:Ev):List Int:=[e.kind,e.at_,e.aj,e.word,e.gi,e.slot,e.call,e.a,e.b,e.c,e.val]
def Ev.Fit (e:Ev):Prop:=∀x∈e.ints,gV x
def Zp (ns:List Int):List UInt8:=(ns.map λn=>32::dec n).flatten
structure Form where
 word:List UInt8
 ev:Ev
 P8:List Nat
deriving DecidableEq,Inhabited
def Form.P9 (f:Form) (e:Ev):List Int:=f.P8.map λo=>e.ints.getD o 0
def Form.made (f:Form) (e:Ev):List Int:=f.P8.foldl (λm o=>m.set o (e.ints.getD o 0)) f.ev.ints
def Form.write (f:Form) (e:Ev):List UInt8:=if(f.P9 e).all written&&decide (f.made e=e.ints) then f.word++Zp (f.P9 e)++[10] else[]
end Go.Proofs.YtldbakcpcfdlaaaGreat
namespace Go.Proofs.YtldbakcpcfdlaaaGreat
open Go Go.RowKit
abbrev AV.u8 (n:Int):AV:=.val (.int .u8 n)
abbrev AV.byte (x:UInt8):AV:=.u8 (x.toNat:Int)
section
variable {P:Program} {H:List Own} {Γ:Env} {g:Bool} {d:Option Tmp} {y z z':Operand} {ty T T' E:TypeId} {p:String} {af:Array Edge} {gd:Option (Nat×Bool)} {n m:Nat} {zv:Value} {k k':List UInt8}
def Jd {m:Int} (hT:(P.underlying T).isSome=true) (Zq:P.underlying T'=some (.int .i64)) (hy:At Γ g y (.u8 m)) (hb:g=true->0<=m/\m<=255):Ok P H Γ g ⟨d,.convert T T' y,ty,p,af,gd⟩ (.int m):=
 iS λI a w he hg=>by
  have h1:a.eval y=.int .u8 m:=hy I a he hg;obtain⟨b0,b1⟩:=hb hg;have h3:IntKind.i64.wrap m=m:=IntWalk.i64_in _ ⟨by omega,by omega⟩;simp only[execOp,h1];simp[go_sem,hT,Zq,h3]
end
section
variable {P:Program} {c:Ctx} {I:Im} {H:List Own} {Γ:Env} {a:Act} {w:World} {Q:Exit->Act->World->Prop}
def pC (T:TypeId) (l:List AV):Value->Own
 |.pointer (some ⟨b,0,none⟩)=>Own.box b T l
 |_=>Own.gone
def AV.x3:AV:=⟨λ_ v=>∃b,v=.pointer (some ⟨b,0,none⟩),λ_ _ _ _ h=>h⟩
def gW (P:Program) (c:Ctx) (H:List Own) (ops:Array Oper) (Q:Exit->Act->World->Prop) (tail:List Oper) (M:Act->List Own) (k:Nat) (Γ:Env) (os:List Oper):Prop:=
 ∃xs,z9 P H ops Γ os xs/\∀I' a' w',St c I' (H++(M a'++made (λ_=>true) a' k os xs)) (tu Γ os (xs.map (·.1))) a' w'->wpList P ops Q tail a' w'
def gW.nil {ops:Array Oper} {tail:List Oper} {M:Act->List Own} {k:Nat} (h:∀I' a' w',St c I' (H++M a') Γ a' w'->wpList P ops Q tail a' w'):gW P c H ops Q tail M k Γ []:=
 ⟨[],trivial,λI' a' w' U=>h I' a' w' (by simpa[made,tu] using U)⟩
def gW.cons {ops:Array Oper} {tail:List Oper} {M:Act->List Own} {k:Nat} {o:Oper} {os:List Oper} {x:AV} (h:ql P H ops (Γ.only (o.looksAt ops)) o x) (r:gW P c H ops Q tail M (k+1) ((o.dst.getD 0,x)::Γ) os):gW P c H ops Q tail M k Γ (o::os):=
 let⟨xs,h1,h2⟩:=r
 ⟨(x,none)::xs,⟨h.r,h1⟩,λI' a' w' U=>h2 I' a' w' (by simpa[made,tu] using U)⟩
def gW.alloc {ops:Array Oper} {tail:List Oper} {M:Act->List Own} {k d:Nat} {os:List Oper} {T ty:TypeId} {p:String} {af:Array Edge} {ag:Bool} {n m:Nat} {zv:Value} {l:List AV} (hT:Ty P T ag n m zv) (hz:∀I,bN I l zv.cells.toList)
 (r:gW P c H ops Q tail (λa=>M a++[pC T l (a.tmps.getD d undef)]) (k+1) ((d,AV.x3)::Γ) os):gW P c H ops Q tail M k Γ (⟨some d,.alloc T,ty,p,af,none⟩::os):=by
 obtain⟨xs,h1,h2⟩:=r;refine⟨(AV.x3,some (pC T l))::xs,⟨?_,h1⟩,λI' a' w' U=>h2 I' a' w' (by simpa[made,tu] using U)⟩;intro base I a w K Q he hm hw kk;rw[if_pos (by simp[Region.wanted])];unfold Oper.wp;have xS:(zeroValue T).run P w=.ok zv w:=hT.zero;simp only[execOp,Instr.alloc,Sem.run_bind,xS,Result.andThen_ok,B1,Sem.run_pure,Oper.upon_value];refine kk _ I _ ⟨_,rfl⟩ (Step.alloc hm _) λf hf=>?_;cases hf;refine⟨⟨_,uN w _,hz I⟩,λb hb=>?_⟩;cases hb;exact⟨Nat.le_refl _,hm.none (Nat.le_refl _),by simp⟩
def St.Qa {id:Nat} (pre tail:List Oper) (U:St c I H Γ a w) (hm:P.follows .mixedOrders=true) (gU:oA pre tail=true) (hd:(pre.all λo=>Nat.blt (o.dst.getD 0) c.n)=true)
 (run:gW P c H (pre++tail).toArray Q tail (λ_=>[]) 0 Γ pre):(Code.region id (pre++tail).toArray true).wp P Q a w:=by
 obtain⟨xs,run,k⟩:=run;refine wp_region_any hm ?_;obtain⟨hlen,kj⟩:=z9.at (Γ0:=Γ) pre xs 0 [] (by simpa[fX] using run) (λe he=>by simp at he);have hf:∀i:Nat,(Array.replicate (pre++tail).length false).getD i false=false:=λi=>by
  rw[Array.getD_eq_getD_getElem?,Array.getElem?_replicate];split<;>rfl
 have Zr:∀(a:Act),made (λi=>(Array.replicate (pre++tail).length false).getD i false) a 0 pre xs=[]:=λa=>by
  rw[wB (S':=λ_=>false) λi o x f _ _=>hf _];have key:∀(k:Nat) (os:List Oper) (xs:List (AV×Mk)),made (λ_=>false) a k os xs=[]:=by
   intro k os;induction os generalizing k with
   |nil=>intro xs;unfold made;rfl
   |cons o os ih=>
    intro xs
    cases xs with
    |nil=>simp[made]
    |cons x xs=>
     obtain⟨x,r⟩:=x
     cases r with
     |none=>simp only[made];exact ih _ _
     |some f=>simp only[made,cond_false];exact ih _ _
  exact key _ _ _
 have:=Zm (P:=P) (c:=c) (H:=H) (Γ:=Γ) (Q:=Q) gU hlen (by simpa using hd) (λi o x ho hx=>by simpa using kj i o x ho hx) (λI' a' w' h=>by
  rw[<-PD] at h;exact k I' a' w' (by simpa using h)) (pre++tail).length (Array.replicate (pre++tail).length false) I a {w with drawn:=w.drawn+1} bn
  (by simpa using List.length_filter_le _ (List.range (pre++tail).length)) (λi hi h=>by rw[hf] at h;cases h) (λi o ho hi=>by rw[hf] at hi;cases hi) (by
    have he:(fW 0 pre (xs.map (·.1))).reverse.filter (λe=>(Array.replicate (pre++tail).length false).getD e.1 false)=[]:=by
     rw[List.filter_eq_nil_iff];intro e _;rw[hf];simp
    rw[he,Zr,List.append_nil];exact⟨⟨U.step.le,U.step.dz,U.step.dF,U.step.below.drew⟩,⟨λo ho=>⟨o.gi I I w _ (Im.le_refl I) (λ_ _=>rfl) (U.own.all o ho).1,(U.own.all o ho).2⟩,U.own.apart⟩,U.env,U.size,U.defers⟩)
 simpa using this
def St.Qb {id:Nat} {l:List Oper} (n:Nat) (U:St c I H Γ a w) (hm:P.follows .mixedOrders=true) (gU:oA (l.take n) (l.drop n)=true) (hd:((l.take n).all λo=>Nat.blt (o.dst.getD 0) c.n)=true)
 (run:gW P c H l.toArray Q (l.drop n) (λ_=>[]) 0 Γ (l.take n)):(Code.region id l.toArray true).wp P Q a w:=by
 have e:l.take n++l.drop n=l:=List.take_append_drop n l;have:=U.Qa (id:=id) (Q:=Q) (l.take n) (l.drop n) hm gU hd (by rw[e];exact run);rwa[e] at this
def St.u6 {d:Nat} {T:TypeId} {l:List AV} (U:St c I (H++([]++[pC T l (a.tmps.getD d undef)])) Γ a w) (h:Env.get d Γ=some AV.x3):∃b,St c I (H++[Own.box b T l]) ((d,.val (.pointer (some ⟨b,0,none⟩)))::Γ) a w:=by
 obtain⟨b,hb⟩:∃b,a.tmps.getD d undef=.pointer (some ⟨b,0,none⟩):=U.env d _ h;rw[hb] at U;refine⟨b,U.step,by simpa[pC] using U.own,λt x e=>?_,U.size,U.defers⟩;simp only[Env.get] at e;cases oB:Nat.beq d t with
 |true=>
  rw[oB] at e;simp only[cond_true] at e;cases e
  obtain rfl:d=t:=Nat.eq_of_beq_eq_true oB
  exact hb
 |false=>rw[oB] at e;exact U.env t x (by simpa using e)
def nv (P:Program) (c:Ctx) (H:List Own) (ops:Array Oper) (Q:Exit->Act->World->Prop) (tail:List Oper) (Γ:Env) (os:List Oper):Prop:=∀k,gW P c H ops Q tail (λ_=>[]) k Γ os
def nv.nil {ops:Array Oper} {tail:List Oper} (k:∀I' a' w',St c I' H Γ a' w'->wpList P ops Q tail a' w'):nv P c H ops Q tail Γ []:=λ_=>.nil λI a w U=>k I a w (by simpa using U)
def nv.cons {ops:Array Oper} {tail:List Oper} {o:Oper} {os:List Oper} {x:AV} (h:ql P H ops (Γ.only (o.looksAt ops)) o x) (k:nv P c H ops Q tail ((o.dst.getD 0,x)::Γ) os):nv P c H ops Q tail Γ (o::os):=λn=>.cons h (k (n+1))
def St.Zs {id:Nat} {l:List Oper} (n:Nat) (U:St c I H Γ a w) (hm:P.follows .mixedOrders=true) (gU:oA (l.take n) (l.drop n)=true) (hd:((l.take n).all λo=>Nat.blt (o.dst.getD 0) c.n)=true)
 (run:nv P c H l.toArray Q (l.drop n) Γ (l.take n)):(Code.region id l.toArray true).wp P Q a w:=U.Qb n hm gU hd (run 0)
def kq (P:Program) (c:Ctx) (H:List Own) (ops:Array Oper) (Q:Exit->Act->World->Prop) (Γ:Env) (os:List Oper):Prop:=nv P c H ops Q [] Γ os
def kq.nil {ops:Array Oper} (k:∀I' a' w',St c I' H Γ a' w'->Q .normal a' w'):kq P c H ops Q Γ []:=nv.nil λI a w h=>wpList_nil (k I a w h)
def kq.cons {ops:Array Oper} {o:Oper} {os:List Oper} {x:AV} (h:ql P H ops (Γ.only (o.looksAt ops)) o x) (k:kq P c H ops Q ((o.dst.getD 0,x)::Γ) os):kq P c H ops Q Γ (o::os):=nv.cons h k
def St.Zt {id:Nat} {l:List Oper} (U:St c I H Γ a w) (hm:P.follows .mixedOrders=true) (gU:oA l []=true) (hd:(l.all λo=>Nat.blt (o.dst.getD 0) c.n)=true)
 (run:kq P c H l.toArray Q Γ l):(Code.region id l.toArray true).wp P Q a w:=by
 have:=U.Qa (id:=id) (Q:=Q) l [] hm gU hd (by rw[List.append_nil];exact run 0);rwa[List.append_nil] at this
end
def kr {f:FuncId} {l:List AV}:(AV.fn f l).One:=λ_ _ ⟨_,e,_⟩=>by rw[e];rfl
def Fn.wE {P:Program} {f:FuncId} {args:List AV} {res:AV} (h:Fn P f args res):lh P (AV.val (.func (.func f) #[] #[])) args res:=λI w v vs hm e ha=>
 ⟨f,#[],#[],e,h.1,by simpa using h.2 I w vs hm ha⟩
end Go.Proofs.YtldbakcpcfdlaaaGreat
