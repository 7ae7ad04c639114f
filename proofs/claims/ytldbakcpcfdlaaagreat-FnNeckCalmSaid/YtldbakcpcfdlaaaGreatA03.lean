/- Part 3: rules of the proofs. -/
import Derived.Lib.ItoaNum
import Derived.Laws.BytesString
import Derived.Laws.DeepStrings4
import Derived.Lib.SlBytesRow
import Derived.Lib.Strings
import Derived.Lib.ItoaLen
import Derived.Test.YtldbakcpcfdlaaaGreatA02
set_option linter.all false
namespace Go.Proofs.YtldbakcpcfdlaaaGreat
open Go Go.RowKit
def bO.perm {base:Nat->Prop} {I:Im} {w:World} {H H':List Own} (h:bO base I w H) (hp:H.Perm H'):bO base I w H':=
 ⟨λo ho=>h.all o (hp.mem_iff.2 ho),(hp.pairwise_iff λh=>h.symm).1 h.apart⟩
def bO.left {base:Nat->Prop} {I:Im} {w:World} {H K:List Own} (h:bO base I w (H++K)):bO base I w H:=
 ⟨λo ho=>h.all o (List.mem_append_left _ ho),h.apart.sublist (List.sublist_append_left H K)⟩
abbrev Mk:=Option (Value->Own)
def zN (P:Program) (H:List Own) (ops:Array Oper) (Γ:Env) (o:Oper) (x:AV) (r:Mk):Prop:=
 ∀(base:Nat->Prop) (I:Im) (a:Act) (w:World) (K:Act->World->Prop) (Q:Exit->Act->World->Prop),cM I a Γ->dx w I->bO base I w H->
  (∀v I' w',x.h I' v->Step I w I' w'->(∀f,r=some f->(f v).ok I' w'/\∀b,(f v).fh b->w.heap.size<=b/\I' b=none/\b<w'.heap.size)->K (a.put o.dst v) w')->
  if Region.wanted o (yielded ops a.tmps) then o.wp P a w K Q else K (a.put o.dst undef) w
def mV.r {P:Program} {H:List Own} {ops:Array Oper} {Γ:Env} {o:Oper} {x:AV} (h:mV P H ops Γ o x):zN P H ops Γ o x none:=
 λbase I a w K Q he hm hw k=>h base I a w K Q he hm hw λv I' w' hx U=>k v I' w' hx U λf e=>by cases e
def made (S:Nat->Bool) (a:Act):Nat->List Oper->List (AV×Mk)->List Own
 |k,o::os,(_,some f)::xs=>bif S k then f (a.tmps.getD (o.dst.getD 0) undef)::made S a (k+1) os xs else made S a (k+1) os xs
 |k,_::os,(_,none)::xs=>made S a (k+1) os xs
 |_,_,_=>[]
def Dg {S:Nat->Bool} {a a':Act}:∀{k:Nat} {os:List Oper} {xs:List (AV×Mk)},(∀(i:Nat) (o:Oper) (x:AV) (f:Value->Own),os[i]?=some o->xs[i]?=some (x,some f)->S (k+i)=true->a.tmps.getD (o.dst.getD 0) undef=a'.tmps.getD (o.dst.getD 0) undef)->made S a k os xs=made S a' k os xs
 |_,[],_,_=>by unfold made;rfl
 |_,_::_,[],_=>by simp[made]
 |k,o::os,(x,some f)::xs,h=>by
  have ih:=Dg (S:=S) (a:=a) (a':=a') (k:=k+1) (os:=os) (xs:=xs) λi o' x' f' h1 h2 h3=>h (i+1) o' x' f' (by simpa using h1) (by simpa using h2) (by rw[show k+(i+1)=k+1+i from by omega];exact h3);simp only[made];cases hS:S k
  .exact ih
  rw[h 0 o x f rfl rfl hS,ih]
 |k,o::os,(x,none)::xs,h=>by
  simp only[made];exact Dg λi o' x' f' h1 h2 h3=>h (i+1) o' x' f' (by simpa using h1) (by simpa using h2) (by rw[show k+(i+1)=k+1+i from by omega];exact h3)
def rD {S S':Nat->Bool} {a:Act}:∀{k:Nat} {os:List Oper} {xs:List (AV×Mk)},(∀(i:Nat) (o:Oper) (x:AV) (f:Value->Own),os[i]?=some o->xs[i]?=some (x,some f)->S (k+i)=S' (k+i))->made S a k os xs=made S' a k os xs
 |_,[],_,_=>by unfold made;rfl
 |_,_::_,[],_=>by simp[made]
 |k,o::os,(x,some f)::xs,h=>by
  simp only[made];rw[show S k=S' k from h 0 o x f rfl rfl,rD (S:=S) (S':=S') (k:=k+1) (os:=os) (xs:=xs) λi o' x' f' h1 h2=>by
   have:=h (i+1) o' x' f' (by simpa using h1) (by simpa using h2);rw[show k+1+i=k+(i+1) from by omega];exact this]
 |k,o::os,(x,none)::xs,h=>by
  simp only[made];exact rD λi o' x' f' h1 h2=>by
   have:=h (i+1) o' x' f' (by simpa using h1) (by simpa using h2);rw[show k+1+i=k+(i+1) from by omega];exact this
def Dh {S:Nat->Bool} {a:Act}:∀{k i:Nat} {os:List Oper} {xs:List (AV×Mk)} {o:Oper} {x:AV} {f:Value->Own},os[i]?=some o->xs[i]?=some (x,some f)->S (k+i)=false->
 (f (a.tmps.getD (o.dst.getD 0) undef)::made S a k os xs).Perm (made (λj=>if j=k+i then true else S j) a k os xs)
 |k,0,o'::os,(x',m)::xs,o,x,f,h1,h2,h3=>by
  simp at h1 h2;obtain⟨rfl,rfl⟩:=h2;subst h1;simp only[made];have Rw:S k=false:=h3;rw[Rw];simp only[Nat.add_zero,if_true,cond_true,cond_false];rw[rD (S:=S) (S':=λj=>if j=k then true else S j) λi o' x' f' _ _=>by rw[if_neg om]]
 |k,i+1,o'::os,(x',some f')::xs,o,x,f,h1,h2,h3=>by
  have ih:=Dh (S:=S) (a:=a) (k:=k+1) (i:=i) (os:=os) (xs:=xs) (o:=o) (x:=x) (f:=f) (by simpa using h1) (by simpa using h2) (by rw[show k+1+i=k+(i+1) from by omega];exact h3);rw[show k+1+i=k+(i+1) from by omega] at ih;simp only[made];rw[if_neg om];cases S k
  .exact ih
  exact(List.Perm.swap _ _ _).trans (ih.cons _)
 |k,i+1,o'::os,(x',none)::xs,o,x,f,h1,h2,h3=>by
  have ih:=Dh (S:=S) (a:=a) (k:=k+1) (i:=i) (os:=os) (xs:=xs) (o:=o) (x:=x) (f:=f) (by simpa using h1) (by simpa using h2) (by rw[show k+1+i=k+(i+1) from by omega];exact h3);rw[show k+1+i=k+(i+1) from by omega] at ih;simp only[made];exact ih
 |_,_,[],_,_,_,_,h1,_,_=>by simp at h1
 |_,_,_::_,[],_,_,_,_,h2,_=>by simp at h2
def uX (P:Program) (H:List Own) (ops:Array Oper):Env->List Oper->List (AV×Mk)->Prop
 |_,[],[]=>True
 |Γ,o::os,x::xs=>zN P H ops (Γ.only (o.looksAt ops)) o x.1 x.2/\uX P H ops ((o.dst.getD 0,x.1)::Γ) os xs
 |_,_,_=>False
def uX.at {P:Program} {H:List Own} {ops:Array Oper} {Γ0:Env}:∀(os:List Oper) (xs:List (AV×Mk)) (k:Nat) (done:List l6),uX P H ops (er done++Γ0) os xs->(∀e∈done,e.1<k)->
 os.length=xs.length/\∀i o x,os[i]?=some o->xs[i]?=some x->zN P H ops ((er (((ep k os (xs.map (·.1))).reverse++done).filter λe=>decide (e.1<k+i))++Γ0).only (o.looksAt ops)) o x.1 x.2
 |[],[],_,_,_,_=>⟨rfl,λi o x h=>by simp at h⟩
 |o::os,x::xs,k,done,h,hd=>by
  obtain⟨h1,h2⟩:=h;have ih:=uX.at os xs (k+1) ((k,o.dst.getD 0,x.1)::done) h2 (λe he=>by
   rcases List.mem_cons.1 he with rfl|he
   .simp
   have:=hd e he;omega)
  refine⟨by simp[ih.1],λi o' x' ho hx=>?_⟩;have wW:(ep k (o::os) ((x::xs).map (·.1))).reverse++done=(ep (k+1) os (xs.map (·.1))).reverse++((k,o.dst.getD 0,x.1)::done):=by simp[ep]
  rw[wW];cases i with
  |zero=>
   simp at ho hx;subst ho hx
   have hf:((ep (k+1) os (xs.map (·.1))).reverse++((k,o.dst.getD 0,x.1)::done)).filter (λe=>decide (e.1<k+0))=done:=by
    rw[List.filter_append];have e1:(ep (k+1) os (xs.map (·.1))).reverse.filter (λe=>decide (e.1<k+0))=[]:=by
     rw[List.filter_eq_nil_iff];intro e he;have:=(zC (k+1) os (xs.map (·.1))).2 e (List.mem_reverse.1 he);simp;omega
    rw[e1,List.filter_cons];simp only[Nat.add_zero,Nat.lt_irrefl,decide_false,Bool.false_eq_true,if_false,List.nil_append];rw[List.filter_eq_self];intro e he;simpa using hd e he
   rw[hf];exact h1
  |succ i=>
   have:=ih.2 i o' x' (by simpa using ho) (by simpa using hx)
   rw[show k+(i+1)=k+1+i from by omega]
   exact this
 |[],_::_,_,_,h,_=>h.elim
 |_::_,[],_,_,h,_=>h.elim
def lG (pre tail:List Oper):Bool:=
 let l:=pre++tail
 let C:=iC [] l
 let p:=pre.length
 (l.zipIdx.all λ(o,i)=>(o.after.toList.all λe=>!Region.binds .any e||Nat.blt e.on i))&&
 (pre.zipIdx.all λ(o,i)=>o.dst.isSome&&
   ((slotsOf l.toArray o).all λt=>pre.zipIdx.all λ(o',j)=>Nat.beq i j||!(o'.dst==some t)||(if j<i then(C.getD i []).contains j else(C.getD j []).contains i))&&
   (pre.zipIdx.all λ(o',j)=>Nat.beq i j||!(o'.dst==o.dst)))&&
 (List.range tail.length).all λi=>(List.range (p+i)).all λj=>(C.getD (p+i) []).contains j
def Di {pre tail:List Oper} (h:lG pre tail=true) {i:Nat} {o:Oper} (ho:(pre++tail)[i]?=some o):∀e∈o.after.toList,Region.binds .any e=true->e.on<i:=λe he hb=>by
 simp only[lG,List.all_eq_true,Bool.and_eq_true] at h;have hm:(o,i)∈(pre++tail).zipIdx:=by rw[List.mem_zipIdx_iff_getElem?];exact ho
 have:=h.1.1 _ hm e he;rw[hb] at this;simpa using this
def Dj {pre tail:List Oper} (h:lG pre tail=true) {i:Nat} {o:Oper} (ho:pre[i]?=some o):
 (∃d,o.dst=some d)/\(∀t∈slotsOf (pre++tail).toArray o,∀j o',pre[j]?=some o'->i≠j->o'.dst=some t->if j<i then j∈(iC [] (pre++tail)).getD i [] else i∈(iC [] (pre++tail)).getD j [])/\
 ∀j o',pre[j]?=some o'->i≠j->o'.dst≠o.dst:=by
 simp only[lG,List.all_eq_true,Bool.and_eq_true] at h;have hm:(o,i)∈pre.zipIdx:=by rw[List.mem_zipIdx_iff_getElem?];exact ho
 obtain⟨⟨h1,h3⟩,h4⟩:=h.1.2 _ hm;have hb:∀j,i≠j->Nat.beq i j=false:=λj bH=>by
  cases hb:Nat.beq i j with
  |false=>rfl
  |true=>exact absurd (Nat.eq_of_beq_eq_true hb) bH
 refine⟨Option.isSome_iff_exists.1 h1,λt ht j o' jH bH hd=>?_,λj o' jH bH hd=>?_⟩
 .have lB:(o',j)∈pre.zipIdx:=by rw[List.mem_zipIdx_iff_getElem?];exact jH
  have:=h3 t ht _ lB;simp only[hb j bH,hd,Bool.false_or] at this;have h5:(!(some t==some t))=false:=by simp
  rw[h5,Bool.false_or] at this;split
  .rename_i cj;rw[if_pos cj] at this;simpa using this
  rename_i cj;rw[if_neg cj] at this;simpa using this
 have lB:(o',j)∈pre.zipIdx:=by rw[List.mem_zipIdx_iff_getElem?];exact jH
 have:=h4 _ lB;simp only[hb j bH,hd,Bool.false_or] at this;simp at this
def Dk {pre tail:List Oper} (h:lG pre tail=true) {i j:Nat} (hi:pre.length<=i) (iu:i<(pre++tail).length) (hj:j<i):j∈(iC [] (pre++tail)).getD i []:=by
 simp only[lG,List.all_eq_true,Bool.and_eq_true] at h;have:=h.2 (i-pre.length) (by simp at iu⊢;omega) j fK;rw[show pre.length+(i-pre.length)=i from by omega] at this;simpa using this
section
variable {P:Program} {c:Ctx} {I:Im} {H:List Own} {Γ:Env} {a:Act} {w:World} {Q:Exit->Act->World->Prop}
def uY {listed:Array Bool} {i:Nat} (h:i<listed.size):listed.getD i true=listed.getD i false:=by simp[h]
def Dl {pre tail:List Oper} {listed:Array Bool} (cF:listed.size=(pre++tail).length)
 (aR:∀(i:Nat) (o:Oper),(pre++tail)[i]?=some o->listed.getD i false=true->∀e∈o.after.toList,Region.binds .any e=true->listed.getD e.on false=true) {i:Nat} {o:Oper} (ho:(pre++tail)[i]?=some o)
 (h3:∀e∈o.after.toList,Region.binds .any e=true->listed.getD e.on false=true):∀j,j≠i->j∈(iC [] (pre++tail)).getD i []->listed.getD j false=true:=λj xe hj=>by
 have cj:i<(pre++tail).length:=(List.getElem?_eq_some_iff.1 ho).1;have iE:∀j,(listed.setIfInBounds i true).getD j false=if j=i then true else listed.getD j false:=λj=>zD om false
 have Rx:=zB (S:=λj=>(listed.setIfInBounds i true).getD j false) (pre++tail) [] (λi k hk=>by simp at hk) (λi' o' jH nJ e he hb=>by
  have iu:(listed.setIfInBounds i true).getD i' false=true:=by simpa using nJ
  show(listed.setIfInBounds i true).getD e.on false=true;rw[iE] at iu⊢;split
  .rfl
  split at iu
  .rename_i xf;subst xf;rw[ho] at jH;cases jH;exact h3 e he hb
  exact aR i' o' jH iu e he hb)
 have h':=Rx i j hj (by show(listed.setIfInBounds i true).getD i false=true;rw[iE];simp);have Ry:(listed.setIfInBounds i true).getD j false=true:=h';rwa[iE,if_neg xe] at Ry
def zO {pre tail:List Oper} (hE:∀{i:Nat} {o:Oper},(pre++tail)[i]?=some o->∀e∈o.after.toList,Region.binds .any e=true->e.on<i)
 (hT:∀{i j:Nat},pre.length<=i->i<(pre++tail).length->j<i->j∈(iC [] (pre++tail)).getD i []):∀(m j:Nat) (listed:Array Bool) (fuel:Nat) (a:Act) (w:World),(pre++tail).length-j=m->pre.length<=j->j<=(pre++tail).length->m<=fuel->listed.size=(pre++tail).length->
 (∀i,i<(pre++tail).length->(listed.getD i false=true↔i<j))->wpList P (pre++tail).toArray Q ((pre++tail).drop j) a w->wpAny P .any (pre++tail).toArray Q fuel listed a w:=by
 intro m;induction m with
 |zero=>
  intro j listed fuel a w hm hp hj hf cF hl h
  have Dm:j=(pre++tail).length:=by omega
  have mc:(pre++tail).drop j=[]:=by rw[Dm];simp
  rw[mc] at h
  have Ji:Region.ready .any (pre++tail).toArray listed=[]:=by
   rw[List.eq_nil_iff_forall_not_mem];intro i hi;obtain⟨h1,o,h2,_⟩:=mem_ready.1 hi;have cj:i<(pre++tail).length:=by have:=(Array.getElem?_eq_some_iff.1 h2).1;simpa using this
   have h4:=(hl i cj).2 om;have h5:listed.getD i true=listed.getD i false:=uY om;rw[h5,h4] at h1;cases h1
  cases fuel with
  |zero=>exact⟨Ji,h⟩
  |succ fuel=>exact⟨λ_=>h,λi hi=>by rw[Ji] at hi;cases hi⟩
 |succ m ih=>
  intro j listed fuel a w hm hp hj hf cF hl h
  have jN:j<(pre++tail).length:=by omega
  cases fuel with
  |zero=>omega
  |succ fuel=>
   have aR:∀(i:Nat) (o:Oper),(pre++tail)[i]?=some o->listed.getD i false=true->∀e∈o.after.toList,Region.binds .any e=true->listed.getD e.on false=true:=λi o ho hi e he hb=>by
    have cj:i<(pre++tail).length:=(List.getElem?_eq_some_iff.1 ho).1;have h1:=(hl i cj).1 hi;have h2:=hE ho e he hb;exact(hl e.on om).2 om
   have hd:∀i,i<(pre++tail).length->listed.getD i true=listed.getD i false:=λi hi=>uY om
   have Rz:∀i∈Region.ready .any (pre++tail).toArray listed,i=j:=λi hi=>by
    obtain⟨h1,o,h2,h3⟩:=mem_ready.1 hi;have cj:i<(pre++tail).length:=by have:=(Array.getElem?_eq_some_iff.1 h2).1;simpa using this
    have ho:(pre++tail)[i]?=some o:=by simpa using h2
    have uZ:¬i<j:=λh'=>by rw[hd i cj,(hl i cj).2 h'] at h1;cases h1
    by_cases jE:i=j
    .exact jE
    have hb:=Dl cF aR ho (λe he hb=>h3 e (by simpa using he) hb) j (λe=>jE e.symm) (hT om cj om);have:=(hl j jN).1 hb;omega
   refine⟨λhr=>?_,λi hi=>?_⟩
   .exfalso
    have:j∈Region.ready .any (pre++tail).toArray listed:=by
     refine mem_ready.2 ⟨?_,(pre++tail)[j],by simp[jN],λe he hb=>?_⟩
     .rw[hd j jN];cases hb:listed.getD j false with
      |false=>rfl
      |true=>have:=(hl j jN).1 hb;omega
     have h2:=hE (i:=j) (o:=(pre++tail)[j]) (by simp[jN]) e (by simpa using he) hb;exact(hl e.on om).2 h2
    rw[hr] at this;cases this
   obtain rfl:=Rz i hi
   have mc:(pre++tail).drop i=(pre++tail)[i]::(pre++tail).drop (i+1):=List.drop_eq_getElem_cons jN
   rw[mc] at h
   have Jj:∀a w,wpList P (pre++tail).toArray Q ((pre++tail).drop (i+1)) a w->wpAny P .any (pre++tail).toArray Q fuel (listed.setIfInBounds i true) a w:=λa w h'=>
    ih (i+1) (listed.setIfInBounds i true) fuel a w om om om om (by simpa using cF) (λk hk=>by
     rw[zD om];split
     .rename_i e;subst e;simp
     rename_i e;rw[hl k hk];omega) h'
   unfold wpOp
   have hg:(pre++tail).toArray[i]?=some (pre++tail)[i]:=by simp[jN]
   simp only[hg]
   unfold wpList at h
   by_cases hw:Region.wanted (pre++tail)[i] (yielded (pre++tail).toArray a.tmps)=true
   .rw[if_pos hw] at h⊢;exact h.imp (Oper.wp_mono Jj) id
   rw[if_neg hw] at h⊢;exact Jj _ _ h
def Jk {pre tail:List Oper} {listed:Array Bool} {n:Nat} (hf:((List.range (pre++tail).length).filter λi=>!listed.getD i false).length<=n) (mf:∀i,i<(pre++tail).length->listed.getD i false=true->i<pre.length) (aU:∀i,i<pre.length->listed.getD i false=true):(pre++tail).length-pre.length<=n:=by
 have h1:((List.range (pre++tail).length).filter λi=>!listed.getD i false)=(List.range (pre++tail).length).filter λi=>decide (pre.length<=i):=by
  apply List.filter_congr;intro i hi;have nJ:i<(pre++tail).length:=by simpa using hi
  cases hb:listed.getD i false with
  |true=>have:=mf i nJ hb;simp;omega
  |false=>
   have:¬i<pre.length:=λh=>by rw[aU i h] at hb;cases hb
   simp;omega
 rw[h1] at hf;have h2:((List.range (pre++tail).length).filter λi=>decide (pre.length<=i)).length=(pre++tail).length-pre.length:=by
  have:(List.range (pre++tail).length)=List.range pre.length++(List.range tail.length).map (pre.length+·):=by
   rw[List.length_append,List.range_add]
  rw[this,List.filter_append];have a1:(List.range pre.length).filter (λi=>decide (pre.length<=i))=[]:=by
   rw[List.filter_eq_nil_iff];intro i hi;simp at hi⊢;omega
  have a2:((List.range tail.length).map (pre.length+·)).filter (λi=>decide (pre.length<=i))=(List.range tail.length).map (pre.length+·):=by
   rw[List.filter_eq_self];intro i hi;simp at hi⊢;omega
  rw[a1,a2];simp
 omega
def RA {pre tail:List Oper} {xs:List (AV×Mk)} (ff:lG pre tail=true) (hlen:pre.length=xs.length) (hd:∀o∈pre,Nat.blt (o.dst.getD 0) c.n=true)
 (run:∀i o x,pre[i]?=some o->xs[i]?=some x->zN P H (pre++tail).toArray ((er ((ep 0 pre (xs.map (·.1))).reverse.filter λe=>decide (e.1<i))++Γ).only (o.looksAt (pre++tail).toArray)) o x.1 x.2)
 (k:∀I' a' w',St c I' (H++made (λ_=>true) a' 0 pre xs) (er (ep 0 pre (xs.map (·.1))).reverse++Γ) a' w'->wpList P (pre++tail).toArray Q tail a' w'):
 ∀(fuel:Nat) (listed:Array Bool) (I:Im) (a:Act) (w:World),listed.size=(pre++tail).length->((List.range (pre++tail).length).filter λi=>!listed.getD i false).length<=fuel->
  (∀i,i<(pre++tail).length->listed.getD i false=true->i<pre.length)->
  (∀(i:Nat) (o:Oper),(pre++tail)[i]?=some o->listed.getD i false=true->∀e∈o.after.toList,Region.binds .any e=true->listed.getD e.on false=true)->
  St c I (H++made (λi=>listed.getD i false) a 0 pre xs) (er ((ep 0 pre (xs.map (·.1))).reverse.filter λe=>listed.getD e.1 false)++Γ) a w->wpAny P .any (pre++tail).toArray Q fuel listed a w:=by
 have hL:(ep 0 pre (xs.map (·.1))).reverse.Pairwise (λe f=>f.1<e.1):=by
  rw[List.pairwise_reverse];exact(zC 0 pre (xs.map (·.1))).1
 have pj:∀e∈(ep 0 pre (xs.map (·.1))).reverse,∃o',pre[e.1]?=some o'/\o'.dst=some e.2.1:=λe he=>by
  obtain⟨j,o',g1,_,g3,g4⟩:=IL (List.mem_reverse.1 he);obtain⟨d',jg⟩:=(Dj ff g1).1;refine⟨o',by rw[g3,Nat.zero_add];exact g1,?_⟩;rw[g4,jg];rfl
 intro fuel;induction fuel with
 |zero=>
  intro listed I a w cF hf mf aR U
  have h0:∀i,i<(pre++tail).length->listed.getD i false=true:=λi hi=>by
   have:(List.range (pre++tail).length).filter (λi=>!listed.getD i false)=[]:=List.eq_nil_of_length_eq_zero om;rw[List.filter_eq_nil_iff] at this;simpa using this i (by simpa using hi)
  have zP:tail=[]:=by
   rcases tail with _|⟨t,ts⟩
   .rfl
   have:=mf pre.length bt (h0 pre.length bt);omega
  have e1:(ep 0 pre (xs.map (·.1))).reverse.filter (λe=>listed.getD e.1 false)=(ep 0 pre (xs.map (·.1))).reverse:=by
   rw[List.filter_eq_self];intro e he;obtain⟨o',h1,_⟩:=pj e he;have:=(List.getElem?_eq_some_iff.1 h1).1;exact h0 e.1 fK
  have e2:made (λi=>listed.getD i false) a 0 pre xs=made (λ_=>true) a 0 pre xs:=rD λi o x f h1 h2=>by
   have:=(List.getElem?_eq_some_iff.1 h1).1;rw[Nat.zero_add];exact h0 i fK
  rw[e1,e2] at U
  have hw:=k I a w U
  exact zO (Di ff) (Dk ff) 0 (pre++tail).length listed 0 a w om bt om om cF (λi hi=>⟨λ_=>hi,λ_=>h0 i hi⟩) (by subst zP;simpa using hw)
 |succ fuel ih=>
  intro listed I a w cF hf mf aR U
  by_cases aU:∀i,i<pre.length->listed.getD i false=true
  .have e1:(ep 0 pre (xs.map (·.1))).reverse.filter (λe=>listed.getD e.1 false)=(ep 0 pre (xs.map (·.1))).reverse:=by
    rw[List.filter_eq_self];intro e he;obtain⟨o',h1,_⟩:=pj e he;exact aU e.1 (List.getElem?_eq_some_iff.1 h1).1
   have e2:made (λi=>listed.getD i false) a 0 pre xs=made (λ_=>true) a 0 pre xs:=rD λi o x f h1 h2=>by
    rw[Nat.zero_add];exact aU i (List.getElem?_eq_some_iff.1 h1).1
   rw[e1,e2] at U
   have RB:=Jk hf mf aU
   refine zO (Di ff) (Dk ff) _ pre.length listed (fuel+1) a w rfl om bt RB cF (λi hi=>⟨mf i hi,aU i⟩) ?_
   rw[List.drop_left]
   exact k I a w U
  have xg:∃i0,i0<pre.length/\listed.getD i0 false=false:=by
   refine Classical.byContradiction λhn=>aU λi hi=>?_;cases hb:listed.getD i false with
   |true=>rfl
   |false=>exact absurd ⟨i,hi,hb⟩ hn
  obtain⟨i0,xh,qh⟩:=xg
  refine⟨λhr=>?_,λi hi=>?_⟩
  .exfalso
   have:∀i,i<(pre++tail).length->listed.getD i false=true:=λi=>by
    induction i using Nat.strongRecOn with
    |_ i wT=>
     intro hi
     cases hl:listed.getD i false with
     |true=>rfl
     |false=>
      have xi:i∈Region.ready .any (pre++tail).toArray listed:=by
       refine mem_ready.2 ⟨by rw[uY om];exact hl,(pre++tail)[i],by simp[hi],λe he hb=>?_⟩;have cj:=Di ff (i:=i) (o:=(pre++tail)[i]) (by simp[hi]) e (by simpa using he) hb;exact wT e.on cj om
      rw[hr] at xi;cases xi
   rw[this i0 fK] at qh;cases qh
  obtain⟨h1,o,h2,h3⟩:=mem_ready.1 hi
  have cj:i<(pre++tail).length:=by have:=(Array.getElem?_eq_some_iff.1 h2).1;simpa using this
  have iO:(pre++tail)[i]?=some o:=by simpa using h2
  rw[uY om] at h1
  have aG:=Dl cF aR iO (λe he hb=>h3 e (by simpa using he) hb)
  have Jl:i<pre.length:=by
   refine Classical.byContradiction λhn=>?_;have:=aG i0 om (Dk ff om cj om);rw[this] at qh;cases qh
  have ho:pre[i]?=some o:=by rw[List.getElem?_append_left Jl] at iO;exact iO
  obtain⟨⟨d,sU⟩,zQ,Jm⟩:=Dj ff ho
  have Dn:=zB (S:=λj=>listed.getD j false) (pre++tail) [] (λi k hk=>by simp at hk) (λi o ho hi e he hb=>aR i o ho (by simpa using hi) e he hb)
  have sV:∀j,i∈(iC [] (pre++tail)).getD j []->listed.getD j false=false:=λj hj=>by
   cases hb:listed.getD j false with
   |false=>rfl
   |true=>rw[Dn j i hj hb] at h1;cases h1
  have iE:∀j,(listed.setIfInBounds i true).getD j false=if j=i then true else listed.getD j false:=λj=>zD om false
  have Dp:∀(i':Nat) (o':Oper),(pre++tail)[i']?=some o'->(listed.setIfInBounds i true).getD i' false=true->∀e∈o'.after.toList,Region.binds .any e=true->(listed.setIfInBounds i true).getD e.on false=true:=λi' o' jH iu e he hb=>by
   rw[iE] at iu⊢;split
   .rfl
   split at iu
   .rename_i xf;subst xf;rw[iO] at jH;cases jH;exact h3 e (by simpa using he) hb
   exact aR i' o' jH iu e he hb
  have lD:i<xs.length:=by omega
  have kG:xs[i]?=some xs[i]:=by simp[lD]
  generalize xs[i]=x at kG
  obtain⟨x,r⟩:=x
  have RC:(xs.map (·.1))[i]?=some x:=by simp[kG]
  have ia:=run i o (x,r) ho kG
  have Dq:cM I a ((er ((ep 0 pre (xs.map (·.1))).reverse.filter λe=>decide (e.1<i))++Γ).only (o.looksAt (pre++tail).toArray)):=λt y e=>by
   obtain⟨g1,g2⟩:=Env.CS e;have ht:t∈slotsOf (pre++tail).toArray o:=by
    unfold slotsOf;rw[List.mem_append];exact .inr (by simpa using g2)
   rw[wV (q:=λe=>listed.getD e.1 false) _ (λe he nK=>?_)] at g1
   .exact U.env t y g1
   obtain⟨o',k1,k2⟩:=pj e he;by_cases sW:e.1=i
   .rw[sW,h1];simp
   have:=zQ t ht e.1 o' k1 (λh=>sW h.symm) (by rw[k2,nK]);split at this
   .rename_i mg;rw[aG e.1 sW this];simpa using mg
   rename_i mg;rw[sV e.1 this];simpa using mg
  have Dr:((List.range (pre++tail).length).filter λj=>!(listed.setIfInBounds i true).getD j false).length<=fuel:=by
   have:=filter_lt (l:=List.range (pre++tail).length) (p:=λj=>!listed.getD j false) (q:=λj=>!(listed.setIfInBounds i true).getD j false) (i:=i) (by simpa using cj) (by simp only[h1];rfl) (by simp only[iE];simp) (λj hj=>by
    simp only[iE] at hj;split at hj
    .cases hj
    exact hj)
   omega
  have Ds:∀j,j<(pre++tail).length->(listed.setIfInBounds i true).getD j false=true->j<pre.length:=λj hj hb=>by
   rw[iE] at hb;split at hb
   .rename_i e;subst e;exact Jl
   exact mf j hj hb
  have rA:(i,d,x)∈(ep 0 pre (xs.map (·.1))).reverse:=by
   rw[List.mem_reverse];have:=Q4 (k:=0) ho RC;rwa[sU,Nat.zero_add] at this
  unfold wpOp
  simp only[h2]
  have lH:=ia c.own I a w (wpAny P .any (pre++tail).toArray Q fuel (listed.setIfInBounds i true)) Q Dq U.step.cX U.own.left (λv I' w' hv st RD=>by
   refine ih (listed.setIfInBounds i true) I' _ w' (by simpa using cF) Dr Ds Dp ?_;rw[sU];have mZ:d<c.n:=by
    have:=hd o (List.mem_of_getElem? ho);rw[sU] at this;simpa using this
   have m0:=U.put (d:=d) (x:=x) (v:=v) mZ hv st;have pf:made (λi=>listed.getD i false) a 0 pre xs=made (λi=>listed.getD i false) (a.put (some d) v) 0 pre xs:=Dg λj o' x' f' g1 g2 g3=>by
    have xe:j≠i:=λe=>by subst e;rw[Nat.zero_add,h1] at g3;cases g3
    have bH:=Jm j o' g1 (λe=>xe e.symm);obtain⟨d',jg⟩:=(Dj ff g1).1;have zR:d≠d':=λe=>bH (by rw[jg,sU,e]);rw[jg];simp[Act.put,zR]
   have dN:bO c.own I' w' (H++made (λj=>(listed.setIfInBounds i true).getD j false) (a.put (some d) v) 0 pre xs):=by
    have h6:=m0.own;rw[pf] at h6;cases r with
    |none=>
     have e3:made (λj=>(listed.setIfInBounds i true).getD j false) (a.put (some d) v) 0 pre xs=made (λi=>listed.getD i false) (a.put (some d) v) 0 pre xs:=rD λj o' x' f' g1 g2=>by
      have xe:j≠i:=λe=>by subst e;rw[kG] at g2;cases g2
      rw[Nat.zero_add,iE,if_neg xe]
     rw[e3];exact h6
    |some f=>
     obtain⟨al,jq⟩:=RD f rfl
     have C6:(a.put (some d) v).tmps.getD d undef=v:=by simp[Act.put,U.size,mZ]
     have hp:=Dh (S:=λi=>listed.getD i false) (a:=a.put (some d) v) (k:=0) ho kG (by rw[Nat.zero_add];exact h1)
     rw[sU] at hp
     simp only[Option.getD_some,C6] at hp
     have e4:made (λj=>if j=0+i then true else listed.getD j false) (a.put (some d) v) 0 pre xs=made (λj=>(listed.setIfInBounds i true).getD j false) (a.put (some d) v) 0 pre xs:=rD λj o' x' f' g1 g2=>by
      rw[iE];simp
     rw[e4] at hp
     have h7:bO c.own I' w' (f v::(H++made (λi=>listed.getD i false) (a.put (some d) v) 0 pre xs)):=by
      refine⟨λo ho=>?_,?_⟩
      .rcases List.mem_cons.1 ho with rfl|ho
       .exact⟨al,λb e=>by
         obtain⟨q1,q2,q3⟩:=jq b e;exact⟨.inl (Nat.le_trans U.step.below.size q1),q2,q3⟩⟩
       exact h6.all o ho
      refine List.pairwise_cons.2 ⟨λy hy b e e'=>?_,h6.apart⟩;rw[<-pf] at hy;have:=((U.own.all y hy).2 b e').2.2;have:=(jq b e).1;omega
     exact h7.perm ((List.perm_middle.symm).trans (hp.append_left H))
   refine⟨m0.step,dN,?_,m0.size,m0.defers⟩;intro t y e;refine m0.env t y ?_;by_cases qi:t=d
   .subst qi;rw[CT (i:=i) (x:=x) _ hL rA (by simp only[iE];simp) (λe he hp nK=>?_)] at e
    .rw[<-e];simp[Env.get]
    obtain⟨o',k1,k2⟩:=pj e he;by_cases hle:e.1<=i
    .exact hle
    have bH:e.1≠i:=by omega
    exact absurd (by rw[k2,nK,sU]) (Jm e.1 o' k1 (λh=>bH h.symm))
   rw[wV (q:=λe=>listed.getD e.1 false) _ (λe he nK=>?_)] at e
   .have hb:Nat.beq d t=false:=by
     cases hb:Nat.beq d t with
     |false=>rfl
     |true=>exact absurd (Nat.eq_of_beq_eq_true hb).symm qi
    simp only[Env.get,hb,cond_false];exact e
   obtain⟨o',k1,k2⟩:=pj e he;have bH:e.1≠i:=λh=>by
    rw[h,ho] at k1;cases k1;rw[sU] at k2;cases k2;exact qi nK.symm
   simp only[iE,if_neg bH])
  by_cases hw:Region.wanted o (yielded (pre++tail).toArray a.tmps)=true
  .rw[if_pos hw] at lH⊢;exact .inl lH
  rw[if_neg hw] at lH⊢;exact lH
end
structure cA where
 time:Int
 site:Int
deriving DecidableEq,Inhabited
structure an where
 key:Int
 ax:cA
deriving DecidableEq,Inhabited
structure aD where
 key:Int
 ax:cA
 val:Int
 aA:Int
 call:Int
 aS:List an
deriving DecidableEq,Inhabited
structure aw where
 kind:Int
 aY:Int
 to:Int
 call:Int
 key:Int
 ax:cA
 val:Int
 yes:Bool
 aS:List an
 slot:Int
 bU:Int
 ar:List aD
 waits:List aD
 aE:List an
deriving DecidableEq,Inhabited
structure cI where
 bU:Int
 eH:Int
deriving DecidableEq,Inhabited
structure Server where
 site:Int
 up:Bool
 aN:List cI
 ar:List aD
 waits:List aD
 aE:List an
 bn:List an
deriving DecidableEq,Inhabited
structure Answer where
 key:Int
 yes:Bool
 bF:aD
deriving DecidableEq,Inhabited
structure Call where
 aA:Int
 num:Int
 kind:Int
 keys:List Int
 val:Int
 ctx:List an
 bq:Int
 end_:Int
 over:Bool
 ax:cA
 az:List Answer
 aL:List an
deriving DecidableEq,Inhabited
structure aJ where
 time:Int
 aC:List Server
 au:List aw
 calls:List Call
 seen:List (List an)
deriving DecidableEq,Inhabited
structure Ev where
 kind:Int
 at_:Int
 aA:Int
 word:Int
 jd:Int
 slot:Int
 call:Int
 a:Int
 b:Int
 c:Int
 val:Int
deriving DecidableEq,Inhabited
def cA.cells (s:cA):List AV:=[.int s.time,.int s.site]
def an.cells (d:an):List AV:=[.int d.key,.int d.ax.time,.int d.ax.site]
def bf (l:List an):AV:=.rows 3 (l.map an.cells)
def aD.cells (v:aD):List AV:=[.int v.key,.int v.ax.time,.int v.ax.site,.int v.val,.int v.aA,.int v.call,bf v.aS]
def bV (l:List aD):AV:=.rows 7 (l.map aD.cells)
def aw.cells (w:aw):List AV:=[.int w.kind,.int w.aY,.int w.to,.int w.call,.int w.key,.int w.ax.time,.int w.ax.site,.int w.val,.bool w.yes,bf w.aS,.int w.slot,.int w.bU,bV w.ar,bV w.waits,bf w.aE]
def cU (l:List aw):AV:=.rows 15 (l.map aw.cells)
def cI.cells (s:cI):List AV:=[.int s.bU,.int s.eH]
def qj (l:List cI):AV:=.rows 2 (l.map cI.cells)
def Server.cells (s:Server):List AV:=[.int s.site,.bool s.up,qj s.aN,bV s.ar,bV s.waits,bf s.aE,bf s.bn]
def jh (l:List Server):AV:=.rows 7 (l.map Server.cells)
def Answer.cells (a:Answer):List AV:=[.int a.key,.bool a.yes,.int a.bF.key,.int a.bF.ax.time,.int a.bF.ax.site,.int a.bF.val,.int a.bF.aA,.int a.bF.call,bf a.bF.aS]
def nL (l:List Answer):AV:=.rows 9 (l.map Answer.cells)
def iP (k:Int):List AV:=[.int k]
def gJ (l:List Int):AV:=.rows 1 (l.map iP)
def Call.cells (c:Call):List AV:=[.int c.aA,.int c.num,.int c.kind,gJ c.keys,.int c.val,bf c.ctx,.int c.bq,.int c.end_,.bool c.over,.int c.ax.time,.int c.ax.site,nL c.az,bf c.aL]
def fN (l:List Call):AV:=.rows 13 (l.map Call.cells)
def du (l:List an):List AV:=[bf l]
def iw (l:List (List an)):AV:=.rows 1 (l.map du)
def aJ.cells (w:aJ):List AV:=[.int w.time,jh w.aC,cU w.au,fN w.calls,iw w.seen]
def Ev.cells (e:Ev):List AV:=[.int e.kind,.int e.at_,.int e.aA,.int e.word,.int e.jd,.int e.slot,.int e.call,.int e.a,.int e.b,.int e.c,.int e.val]
def cA.av (s:cA):AV:=.agg s.cells
def an.av (s:an):AV:=.agg s.cells
def aD.av (s:aD):AV:=.agg s.cells
def aw.av (s:aw):AV:=.agg s.cells
def cI.av (s:cI):AV:=.agg s.cells
def Server.av (s:Server):AV:=.agg s.cells
def Answer.av (s:Answer):AV:=.agg s.cells
def Call.av (s:Call):AV:=.agg s.cells
def aJ.av (s:aJ):AV:=.agg s.cells
def Ev.av (s:Ev):AV:=.agg s.cells
end Go.Proofs.YtldbakcpcfdlaaaGreat
namespace Go.Proofs.YtldbakcpcfdlaaaGreat
def iQ (n:Int):Prop:=-9223372036854775808<=n/\n<=9223372036854775807
def aQ (n low high:Int):Bool:=decide (low<=n)&&decide (n<=high)
def cQ (n:Int):Bool:=aQ n 0 3
def cY (n:Int):Bool:=aQ n 0 5
def eN (n:Int):Bool:=aQ n 0 1
def c7 (s:cA):Bool:=aQ s.time 1 9999&&cQ s.site
def c8 (a b:cA):Bool:=decide (a.time<b.time)||(a.time==b.time&&decide (a.site<b.site))
def dW (s:cA):Bool:=s.time==0&&s.site==0
def jO (s:cA):Bool:=dW s||c7 s
def ct (n:Int):Int:=if cQ n then n/2 else-1
def dF (a b:an):Bool:=decide (a.key<b.key)||(a.key==b.key&&c8 a.ax b.ax)
def dm (last:Int):List an->Bool
 |[]=>true
 |d::r=>aQ d.key (last+1) 5&&c7 d.ax&&dm d.key r
def bP (l:List an):Bool:=dm (-1) l
def cT (n:Nat) (f:Nat->Bool):Bool:=decide (∀i,i<n->f i=true)
def eO {n k:Nat} {f:Nat->Bool} (h:∀i,i<k->f i=true) (hk:n<=k):cT n f=true:=by
 simp only[cT,decide_eq_true_eq];exactλi hi=>h i om
def eX {n k:Nat} {f:Nat->Bool} (hk:k<n) (h:f k=false):cT n f=false:=by
 simp only[cT,decide_eq_false_iff_not];exactλhh=>by rw[hh k hk] at h;cases h
def fO {k:Nat} {f:Nat->Bool} (h:∀i,i<k->f i=true) (hf:f k=true):∀i,i<k+1->f i=true:=λi hi=>by
 by_cases e:i=k
 .subst e;exact hf
 exact h i om
def iR {n:Nat} {f:Nat->Bool}:cT n f=true↔∀i,i<n->f i=true:=by simp[cT]
def xj {n m:Nat} {f g:Nat->Bool} (hn:n=m) (h:∀i,i<n->f i=g i):cT n f=cT m g:=by
 subst hn;rw[Bool.eq_iff_iff,iR,iR];exact⟨λk i hi=>by rw[<-h i hi];exact k i hi,λk i hi=>by rw[h i hi];exact k i hi⟩
def et {α:Type} [Inhabited α] (cH:α->Bool) (less:α->α->Bool) (l:List α) (k:Nat):Bool:=cH (ab l k)&&(decide (k=0)||less (ab l (k-1)) (ab l k))
def rE {α:Type} [Inhabited α] (cH:α->Bool) (less:α->α->Bool) (l:List α) (k:Nat):
 (!cH (ab l k)||(decide (0<(k:Int))&&!less (ab l ((k:Int)-1).toNat) (ab l k)))=!et cH less l k:=by
 rw[show((k:Int)-1).toNat=k-1 from by omega];unfold et;rcases Nat.eq_zero_or_pos k with rfl|h
 .simp
 have h2:k≠0:=by omega
 have h3:0<k:=h;simp[h2,h3]
def Jn (t:Int) (l:List an):Bool:=cT l.length λi=>decide ((ab l i).ax.time<t)
def eD (v:aD):Bool:=cY v.key&&c7 v.ax&&aQ v.val 0 9999&&eN v.aA&&aQ v.call 1 99&&bP v.aS&&Jn v.ax.time v.aS
def aD.bG (v:aD):an:=⟨v.key,v.ax⟩
def ga (a b:aD):Bool:=dF a.bG b.bG
def bY (l:List aD):Bool:=decide (l.length<=80)&&cT l.length (et eD ga l)
def jP (d:an):Bool:=cY d.key&&c7 d.ax
def fD (l:List an):Bool:=decide (l.length<=80)&&cT l.length (et jP dF l)
def kH (n:Int):Bool:=cQ n||aQ n 10 11
def bQ (w:aw):Bool:=
 aQ w.kind 1 10&&kH w.aY&&kH w.to&&aQ w.call 0 99&&cY w.key&&jO w.ax&&aQ w.val 0 9999&&bP w.aS&&aQ w.slot 0 2&&aQ w.bU 0 9999&&
  bY w.ar&&bY w.waits&&fD w.aE
def gS (key:Int):Int:=if cY key then key*3/6 else-1
open Go
def dec (n:Int):List UInt8:=Lib.itoa n
def written (n:Int):Bool:=aQ n 0 99999
def Ev.ints (e:Ev):List Int:=[e.kind,e.at_,e.aA,e.word,e.jd,e.slot,e.call,e.a,e.b,e.c,e.val]
def Ev.Fit (e:Ev):Prop:=∀x∈e.ints,iQ x
def RE (ns:List Int):List UInt8:=(ns.map λn=>32::dec n).flatten
structure Form where
 word:List UInt8
 ev:Ev
 Jo:List Nat
deriving DecidableEq,Inhabited
def Form.Jp (f:Form) (e:Ev):List Int:=f.Jo.map λo=>e.ints.getD o 0
def Form.made (f:Form) (e:Ev):List Int:=f.Jo.foldl (λm o=>m.set o (e.ints.getD o 0)) f.ev.ints
def Form.write (f:Form) (e:Ev):List UInt8:=if(f.Jp e).all written&&decide (f.made e=e.ints) then f.word++RE (f.Jp e)++[10] else[]
end Go.Proofs.YtldbakcpcfdlaaaGreat
namespace Go.Proofs.YtldbakcpcfdlaaaGreat
open Go Go.RowKit
abbrev AV.u8 (n:Int):AV:=.val (.int .u8 n)
abbrev AV.byte (x:UInt8):AV:=.u8 (x.toNat:Int)
section
variable {P:Program} {H:List Own} {Γ:Env} {g:Bool} {d:Option Tmp} {y z z':Operand} {ty T T' E:TypeId} {p:String} {af:Array Edge} {gd:Option (Nat×Bool)} {n m:Nat} {zv:Value} {k k':List UInt8}
def Dt {m:Int} (hT:(P.underlying T).isSome=true) (RF:P.underlying T'=some (.int .i64)) (hy:At Γ g y (.u8 m)) (hb:g=true->0<=m/\m<=255):Ok P H Γ g ⟨d,.convert T T' y,ty,p,af,gd⟩ (.int m):=
 gr λI a w he hg=>by
  have h1:a.eval y=.int .u8 m:=hy I a he hg;obtain⟨b0,b1⟩:=hb hg;have h3:IntKind.i64.wrap m=m:=IntWalk.i64_in _ ⟨by omega,by omega⟩;simp only[execOp,h1];simp[go_sem,hT,RF,h3]
end
section
variable {P:Program} {c:Ctx} {I:Im} {H:List Own} {Γ:Env} {a:Act} {w:World} {Q:Exit->Act->World->Prop}
def mh (T:TypeId) (l:List AV):Value->Own
 |.pointer (some ⟨b,0,none⟩)=>Own.box b T l
 |_=>Own.gone
def AV.sX:AV:=⟨λ_ v=>∃b,v=.pointer (some ⟨b,0,none⟩),λ_ _ _ _ h=>h⟩
def fk (P:Program) (c:Ctx) (H:List Own) (ops:Array Oper) (Q:Exit->Act->World->Prop) (tail:List Oper) (M:Act->List Own) (k:Nat) (Γ:Env) (os:List Oper):Prop:=
 ∃xs,uX P H ops Γ os xs/\∀I' a' w',St c I' (H++(M a'++made (λ_=>true) a' k os xs)) (pd Γ os (xs.map (·.1))) a' w'->wpList P ops Q tail a' w'
def fk.nil {ops:Array Oper} {tail:List Oper} {M:Act->List Own} {k:Nat} (h:∀I' a' w',St c I' (H++M a') Γ a' w'->wpList P ops Q tail a' w'):fk P c H ops Q tail M k Γ []:=
 ⟨[],trivial,λI' a' w' U=>h I' a' w' (by simpa[made,pd] using U)⟩
def fk.cons {ops:Array Oper} {tail:List Oper} {M:Act->List Own} {k:Nat} {o:Oper} {os:List Oper} {x:AV} (h:mV P H ops (Γ.only (o.looksAt ops)) o x) (r:fk P c H ops Q tail M (k+1) ((o.dst.getD 0,x)::Γ) os):fk P c H ops Q tail M k Γ (o::os):=
 let⟨xs,h1,h2⟩:=r
 ⟨(x,none)::xs,⟨h.r,h1⟩,λI' a' w' U=>h2 I' a' w' (by simpa[made,pd] using U)⟩
def fk.alloc {ops:Array Oper} {tail:List Oper} {M:Act->List Own} {k d:Nat} {os:List Oper} {T ty:TypeId} {p:String} {af:Array Edge} {ag:Bool} {n m:Nat} {zv:Value} {l:List AV} (hT:Ty P T ag n m zv) (hz:∀I,bm I l zv.cells.toList)
 (r:fk P c H ops Q tail (λa=>M a++[mh T l (a.tmps.getD d undef)]) (k+1) ((d,AV.sX)::Γ) os):fk P c H ops Q tail M k Γ (⟨some d,.alloc T,ty,p,af,none⟩::os):=by
 obtain⟨xs,h1,h2⟩:=r;refine⟨(AV.sX,some (mh T l))::xs,⟨?_,h1⟩,λI' a' w' U=>h2 I' a' w' (by simpa[made,pd] using U)⟩;intro base I a w K Q he hm hw kk;rw[if_pos (by simp[Region.wanted])];unfold Oper.wp;have w3:(zeroValue T).run P w=.ok zv w:=hT.zero;simp only[execOp,Instr.alloc,Sem.run_bind,w3,Result.andThen_ok,wY,Sem.run_pure,Oper.upon_value];refine kk _ I _ ⟨_,rfl⟩ (Step.alloc hm _) λf hf=>?_;cases hf;refine⟨⟨_,ru w _,hz I⟩,λb hb=>?_⟩;cases hb;exact⟨Nat.le_refl _,hm.none (Nat.le_refl _),by simp⟩
def St.Jq {id:Nat} (pre tail:List Oper) (U:St c I H Γ a w) (hm:P.follows .mixedOrders=true) (ff:lG pre tail=true) (hd:(pre.all λo=>Nat.blt (o.dst.getD 0) c.n)=true)
 (run:fk P c H (pre++tail).toArray Q tail (λ_=>[]) 0 Γ pre):(Code.region id (pre++tail).toArray true).wp P Q a w:=by
 obtain⟨xs,run,k⟩:=run;refine wp_region_any hm ?_;obtain⟨hlen,ia⟩:=uX.at (Γ0:=Γ) pre xs 0 [] (by simpa[er] using run) (λe he=>by simp at he);have hf:∀i:Nat,(Array.replicate (pre++tail).length false).getD i false=false:=λi=>by
  rw[Array.getD_eq_getD_getElem?,Array.getElem?_replicate];split<;>rfl
 have zS:∀(a:Act),made (λi=>(Array.replicate (pre++tail).length false).getD i false) a 0 pre xs=[]:=λa=>by
  rw[rD (S':=λ_=>false) λi o x f _ _=>hf _];have key:∀(k:Nat) (os:List Oper) (xs:List (AV×Mk)),made (λ_=>false) a k os xs=[]:=by
   intro k os;induction os generalizing k with
   |nil=>intro xs;unfold made;rfl
   |cons o os ih=>
    intro xs
    cases xs with
    |nil=>simp[made]
    |cons x xs=>
     obtain⟨x,r⟩:=x
     cases r with
     |none=>simp only[made];exact ih _ _
     |some f=>simp only[made,cond_false];exact ih _ _
  exact key _ _ _
 have:=RA (P:=P) (c:=c) (H:=H) (Γ:=Γ) (Q:=Q) ff hlen (by simpa using hd) (λi o x ho hx=>by simpa using ia i o x ho hx) (λI' a' w' h=>by
  rw[<-IM] at h;exact k I' a' w' (by simpa using h)) (pre++tail).length (Array.replicate (pre++tail).length false) I a {w with drawn:=w.drawn+1} bt
  (by simpa using List.length_filter_le _ (List.range (pre++tail).length)) (λi hi h=>by rw[hf] at h;cases h) (λi o ho hi=>by rw[hf] at hi;cases hi) (by
    have he:(ep 0 pre (xs.map (·.1))).reverse.filter (λe=>(Array.replicate (pre++tail).length false).getD e.1 false)=[]:=by
     rw[List.filter_eq_nil_iff];intro e _;rw[hf];simp
    rw[he,zS,List.append_nil];exact⟨⟨U.step.le,U.step.fL,U.step.cX,U.step.below.drew⟩,⟨λo ho=>⟨o.jd I I w _ (Im.le_refl I) (λ_ _=>rfl) (U.own.all o ho).1,(U.own.all o ho).2⟩,U.own.apart⟩,U.env,U.size,U.defers⟩)
 simpa using this
def St.Jr {id:Nat} {l:List Oper} (n:Nat) (U:St c I H Γ a w) (hm:P.follows .mixedOrders=true) (ff:lG (l.take n) (l.drop n)=true) (hd:((l.take n).all λo=>Nat.blt (o.dst.getD 0) c.n)=true)
 (run:fk P c H l.toArray Q (l.drop n) (λ_=>[]) 0 Γ (l.take n)):(Code.region id l.toArray true).wp P Q a w:=by
 have e:l.take n++l.drop n=l:=List.take_append_drop n l;have:=U.Jq (id:=id) (Q:=Q) (l.take n) (l.drop n) hm ff hd (by rw[e];exact run);rwa[e] at this
def St.rF {d:Nat} {T:TypeId} {l:List AV} (U:St c I (H++([]++[mh T l (a.tmps.getD d undef)])) Γ a w) (h:Env.get d Γ=some AV.sX):∃b,St c I (H++[Own.box b T l]) ((d,.val (.pointer (some ⟨b,0,none⟩)))::Γ) a w:=by
 obtain⟨b,hb⟩:∃b,a.tmps.getD d undef=.pointer (some ⟨b,0,none⟩):=U.env d _ h;rw[hb] at U;refine⟨b,U.step,by simpa[mh] using U.own,λt x e=>?_,U.size,U.defers⟩;simp only[Env.get] at e;cases j1:Nat.beq d t with
 |true=>
  rw[j1] at e;simp only[cond_true] at e;cases e
  obtain rfl:d=t:=Nat.eq_of_beq_eq_true j1
  exact hb
 |false=>rw[j1] at e;exact U.env t x (by simpa using e)
def kf (P:Program) (c:Ctx) (H:List Own) (ops:Array Oper) (Q:Exit->Act->World->Prop) (tail:List Oper) (Γ:Env) (os:List Oper):Prop:=∀k,fk P c H ops Q tail (λ_=>[]) k Γ os
def kf.nil {ops:Array Oper} {tail:List Oper} (k:∀I' a' w',St c I' H Γ a' w'->wpList P ops Q tail a' w'):kf P c H ops Q tail Γ []:=λ_=>.nil λI a w U=>k I a w (by simpa using U)
def kf.cons {ops:Array Oper} {tail:List Oper} {o:Oper} {os:List Oper} {x:AV} (h:mV P H ops (Γ.only (o.looksAt ops)) o x) (k:kf P c H ops Q tail ((o.dst.getD 0,x)::Γ) os):kf P c H ops Q tail Γ (o::os):=λn=>.cons h (k (n+1))
def St.RG {id:Nat} {l:List Oper} (n:Nat) (U:St c I H Γ a w) (hm:P.follows .mixedOrders=true) (ff:lG (l.take n) (l.drop n)=true) (hd:((l.take n).all λo=>Nat.blt (o.dst.getD 0) c.n)=true)
 (run:kf P c H l.toArray Q (l.drop n) Γ (l.take n)):(Code.region id l.toArray true).wp P Q a w:=U.Jr n hm ff hd (run 0)
def iF (P:Program) (c:Ctx) (H:List Own) (ops:Array Oper) (Q:Exit->Act->World->Prop) (Γ:Env) (os:List Oper):Prop:=kf P c H ops Q [] Γ os
def iF.nil {ops:Array Oper} (k:∀I' a' w',St c I' H Γ a' w'->Q .normal a' w'):iF P c H ops Q Γ []:=kf.nil λI a w h=>wpList_nil (k I a w h)
def iF.cons {ops:Array Oper} {o:Oper} {os:List Oper} {x:AV} (h:mV P H ops (Γ.only (o.looksAt ops)) o x) (k:iF P c H ops Q ((o.dst.getD 0,x)::Γ) os):iF P c H ops Q Γ (o::os):=kf.cons h k
def St.RH {id:Nat} {l:List Oper} (U:St c I H Γ a w) (hm:P.follows .mixedOrders=true) (ff:lG l []=true) (hd:(l.all λo=>Nat.blt (o.dst.getD 0) c.n)=true)
 (run:iF P c H l.toArray Q Γ l):(Code.region id l.toArray true).wp P Q a w:=by
 have:=U.Jq (id:=id) (Q:=Q) l [] hm ff hd (by rw[List.append_nil];exact run 0);rwa[List.append_nil] at this
end
def fE {f:FuncId} {l:List AV}:(AV.fn f l).One:=λ_ _ ⟨_,e,_⟩=>by rw[e];rfl
def Fn.Js {P:Program} {f:FuncId} {args:List AV} {res:AV} (h:Fn P f args res):jZ P (AV.val (.func (.func f) #[] #[])) args res:=λI w v vs hm e ha=>
 ⟨f,#[],#[],e,h.1,by simpa using h.2 I w vs hm ha⟩
end Go.Proofs.YtldbakcpcfdlaaaGreat
