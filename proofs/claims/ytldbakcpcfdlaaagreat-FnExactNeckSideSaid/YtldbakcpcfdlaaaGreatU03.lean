/- Part 3: rules of the proofs. -/
import Derived.Lib.ItoaNum
import Derived.Laws.BytesString
import Derived.Laws.DeepStrings4
import Derived.Lib.SlBytesRow
import Derived.Lib.Strings
import Derived.Lib.ItoaLen
import Derived.Test.YtldbakcpcfdlaaaGreatU02
set_option linter.all false
namespace Go.Proofs.YtldbakcpcfdlaaaGreat
open Go Go.RowKit
def aO.perm {base:Nat->Prop} {I:Im} {w:World} {H H':List Own} (h:aO base I w H) (hp:H.Perm H'):aO base I w H':=
 ⟨λo ho=>h.all o (hp.mem_iff.2 ho),(hp.pairwise_iff λh=>h.symm).1 h.apart⟩
def aO.left {base:Nat->Prop} {I:Im} {w:World} {H K:List Own} (h:aO base I w (H++K)):aO base I w H:=
 ⟨λo ho=>h.all o (List.mem_append_left _ ho),h.apart.sublist (List.sublist_append_left H K)⟩
abbrev Mk:=Option (Value->Own)
def oe (P:Program) (H:List Own) (ops:Array Oper) (Γ:Env) (o:Oper) (x:AV) (r:Mk):Prop:=
 ∀(base:Nat->Prop) (I:Im) (a:Act) (w:World) (K:Act->World->Prop) (Q:Exit->Act->World->Prop),br I a Γ->cx w I->aO base I w H->
  (∀v I' w',x.h I' v->Step I w I' w'->(∀f,r=some f->(f v).ok I' w'/\∀b,(f v).bP b->w.heap.size<=b/\I' b=none/\b<w'.heap.size)->K (a.put o.dst v) w')->
  if Region.wanted o (yielded ops a.tmps) then o.wp P a w K Q else K (a.put o.dst undef) w
def gA.r {P:Program} {H:List Own} {ops:Array Oper} {Γ:Env} {o:Oper} {x:AV} (h:gA P H ops Γ o x):oe P H ops Γ o x none:=
 λbase I a w K Q he hm hw k=>h base I a w K Q he hm hw λv I' w' hx U=>k v I' w' hx U λf e=>by cases e
def made (S:Nat->Bool) (a:Act):Nat->List Oper->List (AV×Mk)->List Own
 |k,o::os,(_,some f)::xs=>bif S k then f (a.tmps.getD (o.dst.getD 0) undef)::made S a (k+1) os xs else made S a (k+1) os xs
 |k,_::os,(_,none)::xs=>made S a (k+1) os xs
 |_,_,_=>[]
def qD {S:Nat->Bool} {a a':Act}:∀{k:Nat} {os:List Oper} {xs:List (AV×Mk)},(∀(i:Nat) (o:Oper) (x:AV) (f:Value->Own),os[i]?=some o->xs[i]?=some (x,some f)->S (k+i)=true->a.tmps.getD (o.dst.getD 0) undef=a'.tmps.getD (o.dst.getD 0) undef)->made S a k os xs=made S a' k os xs
 |_,[],_,_=>by unfold made;rfl
 |_,_::_,[],_=>by simp[made]
 |k,o::os,(x,some f)::xs,h=>by
  have ih:=qD (S:=S) (a:=a) (a':=a') (k:=k+1) (os:=os) (xs:=xs) λi o' x' f' h1 h2 h3=>h (i+1) o' x' f' (by simpa using h1) (by simpa using h2) (by rw[show k+(i+1)=k+1+i from by omega];exact h3);simp only[made];cases hS:S k
  .exact ih
  rw[h 0 o x f rfl rfl hS,ih]
 |k,o::os,(x,none)::xs,h=>by
  simp only[made];exact qD λi o' x' f' h1 h2 h3=>h (i+1) o' x' f' (by simpa using h1) (by simpa using h2) (by rw[show k+(i+1)=k+1+i from by omega];exact h3)
def jz {S S':Nat->Bool} {a:Act}:∀{k:Nat} {os:List Oper} {xs:List (AV×Mk)},(∀(i:Nat) (o:Oper) (x:AV) (f:Value->Own),os[i]?=some o->xs[i]?=some (x,some f)->S (k+i)=S' (k+i))->made S a k os xs=made S' a k os xs
 |_,[],_,_=>by unfold made;rfl
 |_,_::_,[],_=>by simp[made]
 |k,o::os,(x,some f)::xs,h=>by
  simp only[made];rw[show S k=S' k from h 0 o x f rfl rfl,jz (S:=S) (S':=S') (k:=k+1) (os:=os) (xs:=xs) λi o' x' f' h1 h2=>by
   have:=h (i+1) o' x' f' (by simpa using h1) (by simpa using h2);rw[show k+1+i=k+(i+1) from by omega];exact this]
 |k,o::os,(x,none)::xs,h=>by
  simp only[made];exact jz λi o' x' f' h1 h2=>by
   have:=h (i+1) o' x' f' (by simpa using h1) (by simpa using h2);rw[show k+1+i=k+(i+1) from by omega];exact this
def qE {S:Nat->Bool} {a:Act}:∀{k i:Nat} {os:List Oper} {xs:List (AV×Mk)} {o:Oper} {x:AV} {f:Value->Own},os[i]?=some o->xs[i]?=some (x,some f)->S (k+i)=false->
 (f (a.tmps.getD (o.dst.getD 0) undef)::made S a k os xs).Perm (made (λj=>if j=k+i then true else S j) a k os xs)
 |k,0,o'::os,(x',m)::xs,o,x,f,h1,h2,h3=>by
  simp at h1 h2;obtain⟨rfl,rfl⟩:=h2;subst h1;simp only[made];have AD:S k=false:=h3;rw[AD];simp only[Nat.add_zero,if_true,cond_true,cond_false];rw[jz (S:=S) (S':=λj=>if j=k then true else S j) λi o' x' f' _ _=>by rw[if_neg om]]
 |k,i+1,o'::os,(x',some f')::xs,o,x,f,h1,h2,h3=>by
  have ih:=qE (S:=S) (a:=a) (k:=k+1) (i:=i) (os:=os) (xs:=xs) (o:=o) (x:=x) (f:=f) (by simpa using h1) (by simpa using h2) (by rw[show k+1+i=k+(i+1) from by omega];exact h3);rw[show k+1+i=k+(i+1) from by omega] at ih;simp only[made];rw[if_neg om];cases S k
  .exact ih
  exact(List.Perm.swap _ _ _).trans (ih.cons _)
 |k,i+1,o'::os,(x',none)::xs,o,x,f,h1,h2,h3=>by
  have ih:=qE (S:=S) (a:=a) (k:=k+1) (i:=i) (os:=os) (xs:=xs) (o:=o) (x:=x) (f:=f) (by simpa using h1) (by simpa using h2) (by rw[show k+1+i=k+(i+1) from by omega];exact h3);rw[show k+1+i=k+(i+1) from by omega] at ih;simp only[made];exact ih
 |_,_,[],_,_,_,_,h1,_,_=>by simp at h1
 |_,_,_::_,[],_,_,_,_,h2,_=>by simp at h2
def lF (P:Program) (H:List Own) (ops:Array Oper):Env->List Oper->List (AV×Mk)->Prop
 |_,[],[]=>True
 |Γ,o::os,x::xs=>oe P H ops (Γ.only (o.looksAt ops)) o x.1 x.2/\lF P H ops ((o.dst.getD 0,x.1)::Γ) os xs
 |_,_,_=>False
def lF.at {P:Program} {H:List Own} {ops:Array Oper} {Γ0:Env}:∀(os:List Oper) (xs:List (AV×Mk)) (k:Nat) (done:List fY),lF P H ops (ck done++Γ0) os xs->(∀e∈done,e.1<k)->
 os.length=xs.length/\∀i o x,os[i]?=some o->xs[i]?=some x->oe P H ops ((ck (((cg k os (xs.map (·.1))).reverse++done).filter λe=>decide (e.1<k+i))++Γ0).only (o.looksAt ops)) o x.1 x.2
 |[],[],_,_,_,_=>⟨rfl,λi o x h=>by simp at h⟩
 |o::os,x::xs,k,done,h,hd=>by
  obtain⟨h1,h2⟩:=h;have ih:=lF.at os xs (k+1) ((k,o.dst.getD 0,x.1)::done) h2 (λe he=>by
   rcases List.mem_cons.1 he with rfl|he
   .simp
   have:=hd e he;omega)
  refine⟨by simp[ih.1],λi o' x' ho hx=>?_⟩;have mB:(cg k (o::os) ((x::xs).map (·.1))).reverse++done=(cg (k+1) os (xs.map (·.1))).reverse++((k,o.dst.getD 0,x.1)::done):=by simp[cg]
  rw[mB];cases i with
  |zero=>
   simp at ho hx;subst ho hx
   have hf:((cg (k+1) os (xs.map (·.1))).reverse++((k,o.dst.getD 0,x.1)::done)).filter (λe=>decide (e.1<k+0))=done:=by
    rw[List.filter_append];have e1:(cg (k+1) os (xs.map (·.1))).reverse.filter (λe=>decide (e.1<k+0))=[]:=by
     rw[List.filter_eq_nil_iff];intro e he;have:=(n3 (k+1) os (xs.map (·.1))).2 e (List.mem_reverse.1 he);simp;omega
    rw[e1,List.filter_cons];simp only[Nat.add_zero,Nat.lt_irrefl,decide_false,Bool.false_eq_true,if_false,List.nil_append];rw[List.filter_eq_self];intro e he;simpa using hd e he
   rw[hf];exact h1
  |succ i=>
   have:=ih.2 i o' x' (by simpa using ho) (by simpa using hx)
   rw[show k+(i+1)=k+1+i from by omega]
   exact this
 |[],_::_,_,_,h,_=>h.elim
 |_::_,[],_,_,h,_=>h.elim
def gf (pre tail:List Oper):Bool:=
 let l:=pre++tail
 let C:=dw [] l
 let p:=pre.length
 (l.zipIdx.all λ(o,i)=>(o.after.toList.all λe=>!Region.binds .any e||Nat.blt e.on i))&&
 (pre.zipIdx.all λ(o,i)=>o.dst.isSome&&
   ((slotsOf l.toArray o).all λt=>pre.zipIdx.all λ(o',j)=>Nat.beq i j||!(o'.dst==some t)||(if j<i then(C.getD i []).contains j else(C.getD j []).contains i))&&
   (pre.zipIdx.all λ(o',j)=>Nat.beq i j||!(o'.dst==o.dst)))&&
 (List.range tail.length).all λi=>(List.range (p+i)).all λj=>(C.getD (p+i) []).contains j
def qF {pre tail:List Oper} (h:gf pre tail=true) {i:Nat} {o:Oper} (ho:(pre++tail)[i]?=some o):∀e∈o.after.toList,Region.binds .any e=true->e.on<i:=λe he hb=>by
 simp only[gf,List.all_eq_true,Bool.and_eq_true] at h;have hm:(o,i)∈(pre++tail).zipIdx:=by rw[List.mem_zipIdx_iff_getElem?];exact ho
 have:=h.1.1 _ hm e he;rw[hb] at this;simpa using this
def qG {pre tail:List Oper} (h:gf pre tail=true) {i:Nat} {o:Oper} (ho:pre[i]?=some o):
 (∃d,o.dst=some d)/\(∀t∈slotsOf (pre++tail).toArray o,∀j o',pre[j]?=some o'->i≠j->o'.dst=some t->if j<i then j∈(dw [] (pre++tail)).getD i [] else i∈(dw [] (pre++tail)).getD j [])/\
 ∀j o',pre[j]?=some o'->i≠j->o'.dst≠o.dst:=by
 simp only[gf,List.all_eq_true,Bool.and_eq_true] at h;have hm:(o,i)∈pre.zipIdx:=by rw[List.mem_zipIdx_iff_getElem?];exact ho
 obtain⟨⟨h1,h3⟩,h4⟩:=h.1.2 _ hm;have hb:∀j,i≠j->Nat.beq i j=false:=λj aY=>by
  cases hb:Nat.beq i j with
  |false=>rfl
  |true=>exact absurd (Nat.eq_of_beq_eq_true hb) aY
 refine⟨Option.isSome_iff_exists.1 h1,λt ht j o' ej aY hd=>?_,λj o' ej aY hd=>?_⟩
 .have dL:(o',j)∈pre.zipIdx:=by rw[List.mem_zipIdx_iff_getElem?];exact ej
  have:=h3 t ht _ dL;simp only[hb j aY,hd,Bool.false_or] at this;have h5:(!(some t==some t))=false:=by simp
  rw[h5,Bool.false_or] at this;split
  .rename_i bH;rw[if_pos bH] at this;simpa using this
  rename_i bH;rw[if_neg bH] at this;simpa using this
 have dL:(o',j)∈pre.zipIdx:=by rw[List.mem_zipIdx_iff_getElem?];exact ej
 have:=h4 _ dL;simp only[hb j aY,hd,Bool.false_or] at this;simp at this
def qH {pre tail:List Oper} (h:gf pre tail=true) {i j:Nat} (hi:pre.length<=i) (dW:i<(pre++tail).length) (hj:j<i):j∈(dw [] (pre++tail)).getD i []:=by
 simp only[gf,List.all_eq_true,Bool.and_eq_true] at h;have:=h.2 (i-pre.length) (by simp at dW⊢;omega) j dF;rw[show pre.length+(i-pre.length)=i from by omega] at this;simpa using this
section
variable {P:Program} {c:Ctx} {I:Im} {H:List Own} {Γ:Env} {a:Act} {w:World} {Q:Exit->Act->World->Prop}
def lG {listed:Array Bool} {i:Nat} (h:i<listed.size):listed.getD i true=listed.getD i false:=by simp[h]
def qI {pre tail:List Oper} {listed:Array Bool} (bf:listed.size=(pre++tail).length)
 (cN:∀(i:Nat) (o:Oper),(pre++tail)[i]?=some o->listed.getD i false=true->∀e∈o.after.toList,Region.binds .any e=true->listed.getD e.on false=true) {i:Nat} {o:Oper} (ho:(pre++tail)[i]?=some o)
 (h3:∀e∈o.after.toList,Region.binds .any e=true->listed.getD e.on false=true):∀j,j≠i->j∈(dw [] (pre++tail)).getD i []->listed.getD j false=true:=λj mP hj=>by
 have bH:i<(pre++tail).length:=(List.getElem?_eq_some_iff.1 ho).1;have dx:∀j,(listed.setIfInBounds i true).getD j false=if j=i then true else listed.getD j false:=λj=>n4 om false
 have AE:=n2 (S:=λj=>(listed.setIfInBounds i true).getD j false) (pre++tail) [] (λi k hk=>by simp at hk) (λi' o' ej qJ e he hb=>by
  have dW:(listed.setIfInBounds i true).getD i' false=true:=by simpa using qJ
  show(listed.setIfInBounds i true).getD e.on false=true;rw[dx] at dW⊢;split
  .rfl
  split at dW
  .rename_i mQ;subst mQ;rw[ho] at ej;cases ej;exact h3 e he hb
  exact cN i' o' ej dW e he hb)
 have h':=AE i j hj (by show(listed.setIfInBounds i true).getD i false=true;rw[dx];simp);have AF:(listed.setIfInBounds i true).getD j false=true:=h';rwa[dx,if_neg mP] at AF
def og {pre tail:List Oper} (hE:∀{i:Nat} {o:Oper},(pre++tail)[i]?=some o->∀e∈o.after.toList,Region.binds .any e=true->e.on<i)
 (hT:∀{i j:Nat},pre.length<=i->i<(pre++tail).length->j<i->j∈(dw [] (pre++tail)).getD i []):∀(m j:Nat) (listed:Array Bool) (fuel:Nat) (a:Act) (w:World),(pre++tail).length-j=m->pre.length<=j->j<=(pre++tail).length->m<=fuel->listed.size=(pre++tail).length->
 (∀i,i<(pre++tail).length->(listed.getD i false=true↔i<j))->wpList P (pre++tail).toArray Q ((pre++tail).drop j) a w->wpAny P .any (pre++tail).toArray Q fuel listed a w:=by
 intro m;induction m with
 |zero=>
  intro j listed fuel a w hm hp hj hf bf hl h
  have AG:j=(pre++tail).length:=by omega
  have qK:(pre++tail).drop j=[]:=by rw[AG];simp
  rw[qK] at h
  have uE:Region.ready .any (pre++tail).toArray listed=[]:=by
   rw[List.eq_nil_iff_forall_not_mem];intro i hi;obtain⟨h1,o,h2,_⟩:=mem_ready.1 hi;have bH:i<(pre++tail).length:=by have:=(Array.getElem?_eq_some_iff.1 h2).1;simpa using this
   have h4:=(hl i bH).2 om;have h5:listed.getD i true=listed.getD i false:=lG om;rw[h5,h4] at h1;cases h1
  cases fuel with
  |zero=>exact⟨uE,h⟩
  |succ fuel=>exact⟨λ_=>h,λi hi=>by rw[uE] at hi;cases hi⟩
 |succ m ih=>
  intro j listed fuel a w hm hp hj hf bf hl h
  have fN:j<(pre++tail).length:=by omega
  cases fuel with
  |zero=>omega
  |succ fuel=>
   have cN:∀(i:Nat) (o:Oper),(pre++tail)[i]?=some o->listed.getD i false=true->∀e∈o.after.toList,Region.binds .any e=true->listed.getD e.on false=true:=λi o ho hi e he hb=>by
    have bH:i<(pre++tail).length:=(List.getElem?_eq_some_iff.1 ho).1;have h1:=(hl i bH).1 hi;have h2:=hE ho e he hb;exact(hl e.on om).2 om
   have hd:∀i,i<(pre++tail).length->listed.getD i true=listed.getD i false:=λi hi=>lG om
   have AH:∀i∈Region.ready .any (pre++tail).toArray listed,i=j:=λi hi=>by
    obtain⟨h1,o,h2,h3⟩:=mem_ready.1 hi;have bH:i<(pre++tail).length:=by have:=(Array.getElem?_eq_some_iff.1 h2).1;simpa using this
    have ho:(pre++tail)[i]?=some o:=by simpa using h2
    have Hs:¬i<j:=λh'=>by rw[hd i bH,(hl i bH).2 h'] at h1;cases h1
    by_cases fL:i=j
    .exact fL
    have hb:=qI bf cN ho (λe he hb=>h3 e (by simpa using he) hb) j (λe=>fL e.symm) (hT om bH om);have:=(hl j fN).1 hb;omega
   refine⟨λhr=>?_,λi hi=>?_⟩
   .exfalso
    have:j∈Region.ready .any (pre++tail).toArray listed:=by
     refine mem_ready.2 ⟨?_,(pre++tail)[j],by simp[fN],λe he hb=>?_⟩
     .rw[hd j fN];cases hb:listed.getD j false with
      |false=>rfl
      |true=>have:=(hl j fN).1 hb;omega
     have h2:=hE (i:=j) (o:=(pre++tail)[j]) (by simp[fN]) e (by simpa using he) hb;exact(hl e.on om).2 h2
    rw[hr] at this;cases this
   obtain rfl:=AH i hi
   have qK:(pre++tail).drop i=(pre++tail)[i]::(pre++tail).drop (i+1):=List.drop_eq_getElem_cons fN
   rw[qK] at h
   have uF:∀a w,wpList P (pre++tail).toArray Q ((pre++tail).drop (i+1)) a w->wpAny P .any (pre++tail).toArray Q fuel (listed.setIfInBounds i true) a w:=λa w h'=>
    ih (i+1) (listed.setIfInBounds i true) fuel a w om om om om (by simpa using bf) (λk hk=>by
     rw[n4 om];split
     .rename_i e;subst e;simp
     rename_i e;rw[hl k hk];omega) h'
   unfold wpOp
   have hg:(pre++tail).toArray[i]?=some (pre++tail)[i]:=by simp[fN]
   simp only[hg]
   unfold wpList at h
   by_cases hw:Region.wanted (pre++tail)[i] (yielded (pre++tail).toArray a.tmps)=true
   .rw[if_pos hw] at h⊢;exact h.imp (Oper.wp_mono uF) id
   rw[if_neg hw] at h⊢;exact uF _ _ h
def uG {pre tail:List Oper} {listed:Array Bool} {n:Nat} (hf:((List.range (pre++tail).length).filter λi=>!listed.getD i false).length<=n) (gh:∀i,i<(pre++tail).length->listed.getD i false=true->i<pre.length) (au:∀i,i<pre.length->listed.getD i false=true):(pre++tail).length-pre.length<=n:=by
 have h1:((List.range (pre++tail).length).filter λi=>!listed.getD i false)=(List.range (pre++tail).length).filter λi=>decide (pre.length<=i):=by
  apply List.filter_congr;intro i hi;have qJ:i<(pre++tail).length:=by simpa using hi
  cases hb:listed.getD i false with
  |true=>have:=gh i qJ hb;simp;omega
  |false=>
   have:¬i<pre.length:=λh=>by rw[au i h] at hb;cases hb
   simp;omega
 rw[h1] at hf;have h2:((List.range (pre++tail).length).filter λi=>decide (pre.length<=i)).length=(pre++tail).length-pre.length:=by
  have:(List.range (pre++tail).length)=List.range pre.length++(List.range tail.length).map (pre.length+·):=by
   rw[List.length_append,List.range_add]
  rw[this,List.filter_append];have a1:(List.range pre.length).filter (λi=>decide (pre.length<=i))=[]:=by
   rw[List.filter_eq_nil_iff];intro i hi;simp at hi⊢;omega
  have a2:((List.range tail.length).map (pre.length+·)).filter (λi=>decide (pre.length<=i))=(List.range tail.length).map (pre.length+·):=by
   rw[List.filter_eq_self];intro i hi;simp at hi⊢;omega
  rw[a1,a2];simp
 omega
def AI {pre tail:List Oper} {xs:List (AV×Mk)} (cI:gf pre tail=true) (hlen:pre.length=xs.length) (hd:∀o∈pre,Nat.blt (o.dst.getD 0) c.n=true)
 (run:∀i o x,pre[i]?=some o->xs[i]?=some x->oe P H (pre++tail).toArray ((ck ((cg 0 pre (xs.map (·.1))).reverse.filter λe=>decide (e.1<i))++Γ).only (o.looksAt (pre++tail).toArray)) o x.1 x.2)
 (k:∀I' a' w',St c I' (H++made (λ_=>true) a' 0 pre xs) (ck (cg 0 pre (xs.map (·.1))).reverse++Γ) a' w'->wpList P (pre++tail).toArray Q tail a' w'):
 ∀(fuel:Nat) (listed:Array Bool) (I:Im) (a:Act) (w:World),listed.size=(pre++tail).length->((List.range (pre++tail).length).filter λi=>!listed.getD i false).length<=fuel->
  (∀i,i<(pre++tail).length->listed.getD i false=true->i<pre.length)->
  (∀(i:Nat) (o:Oper),(pre++tail)[i]?=some o->listed.getD i false=true->∀e∈o.after.toList,Region.binds .any e=true->listed.getD e.on false=true)->
  St c I (H++made (λi=>listed.getD i false) a 0 pre xs) (ck ((cg 0 pre (xs.map (·.1))).reverse.filter λe=>listed.getD e.1 false)++Γ) a w->wpAny P .any (pre++tail).toArray Q fuel listed a w:=by
 have hL:(cg 0 pre (xs.map (·.1))).reverse.Pairwise (λe f=>f.1<e.1):=by
  rw[List.pairwise_reverse];exact(n3 0 pre (xs.map (·.1))).1
 have ik:∀e∈(cg 0 pre (xs.map (·.1))).reverse,∃o',pre[e.1]?=some o'/\o'.dst=some e.2.1:=λe he=>by
  obtain⟨j,o',g1,_,g3,g4⟩:=tV (List.mem_reverse.1 he);obtain⟨d',iT⟩:=(qG cI g1).1;refine⟨o',by rw[g3,Nat.zero_add];exact g1,?_⟩;rw[g4,iT];rfl
 intro fuel;induction fuel with
 |zero=>
  intro listed I a w bf hf gh cN U
  have h0:∀i,i<(pre++tail).length->listed.getD i false=true:=λi hi=>by
   have:(List.range (pre++tail).length).filter (λi=>!listed.getD i false)=[]:=List.eq_nil_of_length_eq_zero om;rw[List.filter_eq_nil_iff] at this;simpa using this i (by simpa using hi)
  have oh:tail=[]:=by
   rcases tail with _|⟨t,ts⟩
   .rfl
   have:=gh pre.length aJ (h0 pre.length aJ);omega
  have e1:(cg 0 pre (xs.map (·.1))).reverse.filter (λe=>listed.getD e.1 false)=(cg 0 pre (xs.map (·.1))).reverse:=by
   rw[List.filter_eq_self];intro e he;obtain⟨o',h1,_⟩:=ik e he;have:=(List.getElem?_eq_some_iff.1 h1).1;exact h0 e.1 dF
  have e2:made (λi=>listed.getD i false) a 0 pre xs=made (λ_=>true) a 0 pre xs:=jz λi o x f h1 h2=>by
   have:=(List.getElem?_eq_some_iff.1 h1).1;rw[Nat.zero_add];exact h0 i dF
  rw[e1,e2] at U
  have hw:=k I a w U
  exact og (qF cI) (qH cI) 0 (pre++tail).length listed 0 a w om aJ om om bf (λi hi=>⟨λ_=>hi,λ_=>h0 i hi⟩) (by subst oh;simpa using hw)
 |succ fuel ih=>
  intro listed I a w bf hf gh cN U
  by_cases au:∀i,i<pre.length->listed.getD i false=true
  .have e1:(cg 0 pre (xs.map (·.1))).reverse.filter (λe=>listed.getD e.1 false)=(cg 0 pre (xs.map (·.1))).reverse:=by
    rw[List.filter_eq_self];intro e he;obtain⟨o',h1,_⟩:=ik e he;exact au e.1 (List.getElem?_eq_some_iff.1 h1).1
   have e2:made (λi=>listed.getD i false) a 0 pre xs=made (λ_=>true) a 0 pre xs:=jz λi o x f h1 h2=>by
    rw[Nat.zero_add];exact au i (List.getElem?_eq_some_iff.1 h1).1
   rw[e1,e2] at U
   have AJ:=uG hf gh au
   refine og (qF cI) (qH cI) _ pre.length listed (fuel+1) a w rfl om aJ AJ bf (λi hi=>⟨gh i hi,au i⟩) ?_
   rw[List.drop_left]
   exact k I a w U
  have mR:∃i0,i0<pre.length/\listed.getD i0 false=false:=by
   refine Classical.byContradiction λhn=>au λi hi=>?_;cases hb:listed.getD i false with
   |true=>rfl
   |false=>exact absurd ⟨i,hi,hb⟩ hn
  obtain⟨i0,AK,iU⟩:=mR
  refine⟨λhr=>?_,λi hi=>?_⟩
  .exfalso
   have:∀i,i<(pre++tail).length->listed.getD i false=true:=λi=>by
    induction i using Nat.strongRecOn with
    |_ i my=>
     intro hi
     cases hl:listed.getD i false with
     |true=>rfl
     |false=>
      have jA:i∈Region.ready .any (pre++tail).toArray listed:=by
       refine mem_ready.2 ⟨by rw[lG om];exact hl,(pre++tail)[i],by simp[hi],λe he hb=>?_⟩;have bH:=qF cI (i:=i) (o:=(pre++tail)[i]) (by simp[hi]) e (by simpa using he) hb;exact my e.on bH om
      rw[hr] at jA;cases jA
   rw[this i0 dF] at iU;cases iU
  obtain⟨h1,o,h2,h3⟩:=mem_ready.1 hi
  have bH:i<(pre++tail).length:=by have:=(Array.getElem?_eq_some_iff.1 h2).1;simpa using this
  have iV:(pre++tail)[i]?=some o:=by simpa using h2
  rw[lG om] at h1
  have aF:=qI bf cN iV (λe he hb=>h3 e (by simpa using he) hb)
  have uH:i<pre.length:=by
   refine Classical.byContradiction λhn=>?_;have:=aF i0 om (qH cI om bH om);rw[this] at iU;cases iU
  have ho:pre[i]?=some o:=by rw[List.getElem?_append_left uH] at iV;exact iV
  obtain⟨⟨d,kp⟩,oi,uI⟩:=qG cI ho
  have qL:=n2 (S:=λj=>listed.getD j false) (pre++tail) [] (λi k hk=>by simp at hk) (λi o ho hi e he hb=>cN i o ho (by simpa using hi) e he hb)
  have kq:∀j,i∈(dw [] (pre++tail)).getD j []->listed.getD j false=false:=λj hj=>by
   cases hb:listed.getD j false with
   |false=>rfl
   |true=>rw[qL j i hj hb] at h1;cases h1
  have dx:∀j,(listed.setIfInBounds i true).getD j false=if j=i then true else listed.getD j false:=λj=>n4 om false
  have qM:∀(i':Nat) (o':Oper),(pre++tail)[i']?=some o'->(listed.setIfInBounds i true).getD i' false=true->∀e∈o'.after.toList,Region.binds .any e=true->(listed.setIfInBounds i true).getD e.on false=true:=λi' o' ej dW e he hb=>by
   rw[dx] at dW⊢;split
   .rfl
   split at dW
   .rename_i mQ;subst mQ;rw[iV] at ej;cases ej;exact h3 e (by simpa using he) hb
   exact cN i' o' ej dW e he hb
  have gQ:i<xs.length:=by omega
  have mS:xs[i]?=some xs[i]:=by simp[gQ]
  generalize xs[i]=x at mS
  obtain⟨x,r⟩:=x
  have AL:(xs.map (·.1))[i]?=some x:=by simp[mS]
  have dM:=run i o (x,r) ho mS
  have qN:br I a ((ck ((cg 0 pre (xs.map (·.1))).reverse.filter λe=>decide (e.1<i))++Γ).only (o.looksAt (pre++tail).toArray)):=λt y e=>by
   obtain⟨g1,g2⟩:=Env.p6 e;have ht:t∈slotsOf (pre++tail).toArray o:=by
    unfold slotsOf;rw[List.mem_append];exact .inr (by simpa using g2)
   rw[mA (q:=λe=>listed.getD e.1 false) _ (λe he gS=>?_)] at g1
   .exact U.env t y g1
   obtain⟨o',k1,k2⟩:=ik e he;by_cases kr:e.1=i
   .rw[kr,h1];simp
   have:=oi t ht e.1 o' k1 (λh=>kr h.symm) (by rw[k2,gS]);split at this
   .rename_i gi;rw[aF e.1 kr this];simpa using gi
   rename_i gi;rw[kq e.1 this];simpa using gi
  have qO:((List.range (pre++tail).length).filter λj=>!(listed.setIfInBounds i true).getD j false).length<=fuel:=by
   have:=filter_lt (l:=List.range (pre++tail).length) (p:=λj=>!listed.getD j false) (q:=λj=>!(listed.setIfInBounds i true).getD j false) (i:=i) (by simpa using bH) (by simp only[h1];rfl) (by simp only[dx];simp) (λj hj=>by
    simp only[dx] at hj;split at hj
    .cases hj
    exact hj)
   omega
  have qP:∀j,j<(pre++tail).length->(listed.setIfInBounds i true).getD j false=true->j<pre.length:=λj hj hb=>by
   rw[dx] at hb;split at hb
   .rename_i e;subst e;exact uH
   exact gh j hj hb
  have mJ:(i,d,x)∈(cg 0 pre (xs.map (·.1))).reverse:=by
   rw[List.mem_reverse];have:=zX (k:=0) ho AL;rwa[kp,Nat.zero_add] at this
  unfold wpOp
  simp only[h2]
  have gC:=dM c.own I a w (wpAny P .any (pre++tail).toArray Q fuel (listed.setIfInBounds i true)) Q qN U.step.bO U.own.left (λv I' w' hv st AM=>by
   refine ih (listed.setIfInBounds i true) I' _ w' (by simpa using bf) qO qP qM ?_;rw[kp];have oj:d<c.n:=by
    have:=hd o (List.mem_of_getElem? ho);rw[kp] at this;simpa using this
   have jB:=U.put (d:=d) (x:=x) (v:=v) oj hv st;have jy:made (λi=>listed.getD i false) a 0 pre xs=made (λi=>listed.getD i false) (a.put (some d) v) 0 pre xs:=qD λj o' x' f' g1 g2 g3=>by
    have mP:j≠i:=λe=>by subst e;rw[Nat.zero_add,h1] at g3;cases g3
    have aY:=uI j o' g1 (λe=>mP e.symm);obtain⟨d',iT⟩:=(qG cI g1).1;have AN:d≠d':=λe=>aY (by rw[iT,kp,e]);rw[iT];simp[Act.put,AN]
   have cS:aO c.own I' w' (H++made (λj=>(listed.setIfInBounds i true).getD j false) (a.put (some d) v) 0 pre xs):=by
    have h6:=jB.own;rw[jy] at h6;cases r with
    |none=>
     have e3:made (λj=>(listed.setIfInBounds i true).getD j false) (a.put (some d) v) 0 pre xs=made (λi=>listed.getD i false) (a.put (some d) v) 0 pre xs:=jz λj o' x' f' g1 g2=>by
      have mP:j≠i:=λe=>by subst e;rw[mS] at g2;cases g2
      rw[Nat.zero_add,dx,if_neg mP]
     rw[e3];exact h6
    |some f=>
     obtain⟨ak,dU⟩:=AM f rfl
     have qt:(a.put (some d) v).tmps.getD d undef=v:=by simp[Act.put,U.size,oj]
     have hp:=qE (S:=λi=>listed.getD i false) (a:=a.put (some d) v) (k:=0) ho mS (by rw[Nat.zero_add];exact h1)
     rw[kp] at hp
     simp only[Option.getD_some,qt] at hp
     have e4:made (λj=>if j=0+i then true else listed.getD j false) (a.put (some d) v) 0 pre xs=made (λj=>(listed.setIfInBounds i true).getD j false) (a.put (some d) v) 0 pre xs:=jz λj o' x' f' g1 g2=>by
      rw[dx];simp
     rw[e4] at hp
     have h7:aO c.own I' w' (f v::(H++made (λi=>listed.getD i false) (a.put (some d) v) 0 pre xs)):=by
      refine⟨λo ho=>?_,?_⟩
      .rcases List.mem_cons.1 ho with rfl|ho
       .exact⟨ak,λb e=>by
         obtain⟨q1,q2,q3⟩:=dU b e;exact⟨.inl (Nat.le_trans U.step.below.size q1),q2,q3⟩⟩
       exact h6.all o ho
      refine List.pairwise_cons.2 ⟨λy hy b e e'=>?_,h6.apart⟩;rw[<-jy] at hy;have:=((U.own.all y hy).2 b e').2.2;have:=(dU b e).1;omega
     exact h7.perm ((List.perm_middle.symm).trans (hp.append_left H))
   refine⟨jB.step,cS,?_,jB.size,jB.defers⟩;intro t y e;refine jB.env t y ?_;by_cases iW:t=d
   .subst iW;rw[p7 (i:=i) (x:=x) _ hL mJ (by simp only[dx];simp) (λe he hp gS=>?_)] at e
    .rw[<-e];simp[Env.get]
    obtain⟨o',k1,k2⟩:=ik e he;by_cases hle:e.1<=i
    .exact hle
    have aY:e.1≠i:=by omega
    exact absurd (by rw[k2,gS,kp]) (uI e.1 o' k1 (λh=>aY h.symm))
   rw[mA (q:=λe=>listed.getD e.1 false) _ (λe he gS=>?_)] at e
   .have hb:Nat.beq d t=false:=by
     cases hb:Nat.beq d t with
     |false=>rfl
     |true=>exact absurd (Nat.eq_of_beq_eq_true hb).symm iW
    simp only[Env.get,hb,cond_false];exact e
   obtain⟨o',k1,k2⟩:=ik e he;have aY:e.1≠i:=λh=>by
    rw[h,ho] at k1;cases k1;rw[kp] at k2;cases k2;exact iW gS.symm
   simp only[dx,if_neg aY])
  by_cases hw:Region.wanted o (yielded (pre++tail).toArray a.tmps)=true
  .rw[if_pos hw] at gC⊢;exact .inl gC
  rw[if_neg hw] at gC⊢;exact gC
end
structure cy where
 time:Int
 site:Int
deriving DecidableEq,Inhabited
structure ay where
 key:Int
 aE:cy
deriving DecidableEq,Inhabited
structure al where
 key:Int
 aE:cy
 val:Int
 bl:Int
 call:Int
 aA:List ay
deriving DecidableEq,Inhabited
structure cu where
 kind:Int
 kt:Int
 to:Int
 call:Int
 key:Int
 aE:cy
 val:Int
 yes:Bool
 aA:List ay
 slot:Int
 fe:Int
 ao:List al
 waits:List al
 bV:List ay
deriving DecidableEq,Inhabited
structure cv where
 fe:Int
 iX:Int
deriving DecidableEq,Inhabited
structure Server where
 site:Int
 up:Bool
 cn:List cv
 ao:List al
 waits:List al
 bV:List ay
 ek:List ay
deriving DecidableEq,Inhabited
structure Answer where
 key:Int
 yes:Bool
 bs:al
deriving DecidableEq,Inhabited
structure Call where
 bl:Int
 num:Int
 kind:Int
 keys:List Int
 val:Int
 ctx:List ay
 cO:Int
 end_:Int
 over:Bool
 aE:cy
 aG:List Answer
 aR:List ay
deriving DecidableEq,Inhabited
structure bB where
 time:Int
 aM:List Server
 c0:List cu
 calls:List Call
 seen:List (List ay)
deriving DecidableEq,Inhabited
structure Ev where
 kind:Int
 at_:Int
 bl:Int
 word:Int
 fy:Int
 slot:Int
 call:Int
 a:Int
 b:Int
 c:Int
 val:Int
deriving DecidableEq,Inhabited
def cy.cells (s:cy):List AV:=[.int s.time,.int s.site]
def ay.cells (d:ay):List AV:=[.int d.key,.int d.aE.time,.int d.aE.site]
def cY (l:List ay):AV:=.rows 3 (l.map ay.cells)
def al.cells (v:al):List AV:=[.int v.key,.int v.aE.time,.int v.aE.site,.int v.val,.int v.bl,.int v.call,cY v.aA]
def bN (l:List al):AV:=.rows 7 (l.map al.cells)
def cu.cells (w:cu):List AV:=[.int w.kind,.int w.kt,.int w.to,.int w.call,.int w.key,.int w.aE.time,.int w.aE.site,.int w.val,.bool w.yes,cY w.aA,.int w.slot,.int w.fe,bN w.ao,bN w.waits,cY w.bV]
def iY (l:List cu):AV:=.rows 15 (l.map cu.cells)
def cv.cells (s:cv):List AV:=[.int s.fe,.int s.iX]
def lH (l:List cv):AV:=.rows 2 (l.map cv.cells)
def Server.cells (s:Server):List AV:=[.int s.site,.bool s.up,lH s.cn,bN s.ao,bN s.waits,cY s.bV,cY s.ek]
def ku (l:List Server):AV:=.rows 7 (l.map Server.cells)
def Answer.cells (a:Answer):List AV:=[.int a.key,.bool a.yes,.int a.bs.key,.int a.bs.aE.time,.int a.bs.aE.site,.int a.bs.val,.int a.bs.bl,.int a.bs.call,cY a.bs.aA]
def jC (l:List Answer):AV:=.rows 9 (l.map Answer.cells)
def gD (k:Int):List AV:=[.int k]
def iZ (l:List Int):AV:=.rows 1 (l.map gD)
def Call.cells (c:Call):List AV:=[.int c.bl,.int c.num,.int c.kind,iZ c.keys,.int c.val,cY c.ctx,.int c.cO,.int c.end_,.bool c.over,.int c.aE.time,.int c.aE.site,jC c.aG,cY c.aR]
def ja (l:List Call):AV:=.rows 13 (l.map Call.cells)
def uJ (l:List ay):List AV:=[cY l]
def jb (l:List (List ay)):AV:=.rows 1 (l.map uJ)
def bB.cells (w:bB):List AV:=[.int w.time,ku w.aM,iY w.c0,ja w.calls,jb w.seen]
def Ev.cells (e:Ev):List AV:=[.int e.kind,.int e.at_,.int e.bl,.int e.word,.int e.fy,.int e.slot,.int e.call,.int e.a,.int e.b,.int e.c,.int e.val]
def cy.av (s:cy):AV:=.agg s.cells
def ay.av (s:ay):AV:=.agg s.cells
def al.av (s:al):AV:=.agg s.cells
def cu.av (s:cu):AV:=.agg s.cells
def cv.av (s:cv):AV:=.agg s.cells
def Server.av (s:Server):AV:=.agg s.cells
def Answer.av (s:Answer):AV:=.agg s.cells
def Call.av (s:Call):AV:=.agg s.cells
def bB.av (s:bB):AV:=.agg s.cells
def Ev.av (s:Ev):AV:=.agg s.cells
end Go.Proofs.YtldbakcpcfdlaaaGreat
namespace Go.Proofs.YtldbakcpcfdlaaaGreat
def bD (n:Int):Prop:=-9223372036854775808<=n/\n<=9223372036854775807
def aI (n low high:Int):Bool:=decide (low<=n)&&decide (n<=high)
def il (n:Int):Bool:=aI n 0 3
def bW (n:Int):Bool:=aI n 0 5
def fE (n:Int):Bool:=aI n 0 1
def cZ (s:cy):Bool:=aI s.time 1 9999&&il s.site
def fO (a b:cy):Bool:=decide (a.time<b.time)||(a.time==b.time&&decide (a.site<b.site))
def en (s:cy):Bool:=s.time==0&&s.site==0
def jD (s:cy):Bool:=en s||cZ s
def ff (n:Int):Int:=if il n then n/2 else-1
def da (a b:ay):Bool:=decide (a.key<b.key)||(a.key==b.key&&fO a.aE b.aE)
def eP (last:Int):List ay->Bool
 |[]=>true
 |d::r=>aI d.key (last+1) 5&&cZ d.aE&&eP d.key r
def cP (l:List ay):Bool:=eP (-1) l
def bC (n:Nat) (f:Nat->Bool):Bool:=decide (∀i,i<n->f i=true)
def cD {n k:Nat} {f:Nat->Bool} (h:∀i,i<k->f i=true) (hk:n<=k):bC n f=true:=by
 simp only[bC,decide_eq_true_eq];exactλi hi=>h i om
def cF {n k:Nat} {f:Nat->Bool} (hk:k<n) (h:f k=false):bC n f=false:=by
 simp only[bC,decide_eq_false_iff_not];exactλhh=>by rw[hh k hk] at h;cases h
def cT {k:Nat} {f:Nat->Bool} (h:∀i,i<k->f i=true) (hf:f k=true):∀i,i<k+1->f i=true:=λi hi=>by
 by_cases e:i=k
 .subst e;exact hf
 exact h i om
def fF {n:Nat} {f:Nat->Bool}:bC n f=true↔∀i,i<n->f i=true:=by simp[bC]
def mT {n m:Nat} {f g:Nat->Bool} (hn:n=m) (h:∀i,i<n->f i=g i):bC n f=bC m g:=by
 subst hn;rw[Bool.eq_iff_iff,fF,fF];exact⟨λk i hi=>by rw[<-h i hi];exact k i hi,λk i hi=>by rw[h i hi];exact k i hi⟩
def cA {α:Type} [Inhabited α] (ot:α->Bool) (less:α->α->Bool) (l:List α) (k:Nat):Bool:=ot (ae l k)&&(decide (k=0)||less (ae l (k-1)) (ae l k))
def jE {α:Type} [Inhabited α] (ot:α->Bool) (less:α->α->Bool) (l:List α) (k:Nat):
 (!ot (ae l k)||(decide (0<(k:Int))&&!less (ae l ((k:Int)-1).toNat) (ae l k)))=!cA ot less l k:=by
 rw[show((k:Int)-1).toNat=k-1 from by omega];unfold cA;rcases Nat.eq_zero_or_pos k with rfl|h
 .simp
 have h2:k≠0:=by omega
 have h3:0<k:=h;simp[h2,h3]
def uK (t:Int) (l:List ay):Bool:=bC l.length λi=>decide ((ae l i).aE.time<t)
def eo (v:al):Bool:=bW v.key&&cZ v.aE&&aI v.val 0 9999&&fE v.bl&&aI v.call 1 99&&cP v.aA&&uK v.aE.time v.aA
def al.cG (v:al):ay:=⟨v.key,v.aE⟩
def c4 (a b:al):Bool:=da a.cG b.cG
def cJ (l:List al):Bool:=decide (l.length<=80)&&bC l.length (cA eo c4 l)
def jF (d:ay):Bool:=bW d.key&&cZ d.aE
def fg (l:List ay):Bool:=decide (l.length<=80)&&bC l.length (cA jF da l)
def qQ (n:Int):Bool:=il n||aI n 10 11
def lI (w:cu):Bool:=
 aI w.kind 1 10&&qQ w.kt&&qQ w.to&&aI w.call 0 99&&bW w.key&&jD w.aE&&aI w.val 0 9999&&cP w.aA&&aI w.slot 0 2&&aI w.fe 0 9999&&
  cJ w.ao&&cJ w.waits&&fg w.bV
def im (key:Int):Int:=if bW key then key*3/6 else-1
open Go
def dec (n:Int):List UInt8:=Lib.itoa n
def written (n:Int):Bool:=aI n 0 99999
def Ev.ints (e:Ev):List Int:=[e.kind,e.at_,e.bl,e.word,e.fy,e.slot,e.call,e.a,e.b,e.c,e.val]
def Ev.Fit (e:Ev):Prop:=∀x∈e.ints,bD x
def AO (ns:List Int):List UInt8:=(ns.map λn=>32::dec n).flatten
structure Form where
 word:List UInt8
 ev:Ev
 uL:List Nat
deriving DecidableEq,Inhabited
def Form.uM (f:Form) (e:Ev):List Int:=f.uL.map λo=>e.ints.getD o 0
def Form.made (f:Form) (e:Ev):List Int:=f.uL.foldl (λm o=>m.set o (e.ints.getD o 0)) f.ev.ints
def Form.write (f:Form) (e:Ev):List UInt8:=if(f.uM e).all written&&decide (f.made e=e.ints) then f.word++AO (f.uM e)++[10] else[]
end Go.Proofs.YtldbakcpcfdlaaaGreat
namespace Go.Proofs.YtldbakcpcfdlaaaGreat
open Go Go.RowKit
section
variable {P:Program} {c:Ctx} {I:Im} {H:List Own} {Γ:Env} {a:Act} {w:World} {Q:Exit->Act->World->Prop}
def gT (T:TypeId) (l:List AV):Value->Own
 |.pointer (some ⟨b,0,none⟩)=>Own.box b T l
 |_=>Own.gone
def AV.lJ:AV:=⟨λ_ v=>∃b,v=.pointer (Option.some ⟨b,0,none⟩),λ_ _ _ _ h=>h⟩
def dY (P:Program) (c:Ctx) (H:List Own) (ops:Array Oper) (Q:Exit->Act->World->Prop) (tail:List Oper) (M:Act->List Own) (k:Nat) (Γ:Env) (os:List Oper):Prop:=
 ∃xs,lF P H ops Γ os xs/\∀I' a' w',St c I' (H++(M a'++made (λ_=>true) a' k os xs)) (hY Γ os (xs.map (·.1))) a' w'->wpList P ops Q tail a' w'
def dY.nil {ops:Array Oper} {tail:List Oper} {M:Act->List Own} {k:Nat} (h:∀I' a' w',St c I' (H++M a') Γ a' w'->wpList P ops Q tail a' w'):dY P c H ops Q tail M k Γ []:=
 ⟨[],trivial,λI' a' w' U=>h I' a' w' (by simpa[made,hY] using U)⟩
def dY.cons {ops:Array Oper} {tail:List Oper} {M:Act->List Own} {k:Nat} {o:Oper} {os:List Oper} {x:AV} (h:gA P H ops (Γ.only (o.looksAt ops)) o x) (r:dY P c H ops Q tail M (k+1) ((o.dst.getD 0,x)::Γ) os):dY P c H ops Q tail M k Γ (o::os):=
 let⟨xs,h1,h2⟩:=r
 ⟨(x,none)::xs,⟨h.r,h1⟩,λI' a' w' U=>h2 I' a' w' (by simpa[made,hY] using U)⟩
def dY.alloc {ops:Array Oper} {tail:List Oper} {M:Act->List Own} {k d:Nat} {os:List Oper} {T ty:TypeId} {p:String} {af:Array Edge} {ag:Bool} {n m:Nat} {zv:Value} {l:List AV} (hT:Ty P T ag n m zv) (hz:∀I,aC I l zv.cells.toList)
 (r:dY P c H ops Q tail (λa=>M a++[gT T l (a.tmps.getD d undef)]) (k+1) ((d,AV.lJ)::Γ) os):dY P c H ops Q tail M k Γ (⟨some d,.alloc T,ty,p,af,none⟩::os):=by
 obtain⟨xs,h1,h2⟩:=r;refine⟨(AV.lJ,some (gT T l))::xs,⟨?_,h1⟩,λI' a' w' U=>h2 I' a' w' (by simpa[made,hY] using U)⟩;intro base I a w K Q he hm hw kk;rw[if_pos (by simp[Region.wanted])];unfold Oper.wp;have mD:(zeroValue T).run P w=.ok zv w:=hT.zero;simp only[execOp,Instr.alloc,Sem.run_bind,mD,Result.andThen_ok,mC,Sem.run_pure,Oper.upon_value];refine kk _ I _ ⟨_,rfl⟩ (Step.alloc hm _) λf hf=>?_;cases hf;refine⟨⟨_,j9 w _,hz I⟩,λb hb=>?_⟩;cases hb;exact⟨Nat.le_refl _,hm.none (Nat.le_refl _),by simp⟩
def St.uN {id:Nat} (pre tail:List Oper) (U:St c I H Γ a w) (hm:P.follows .mixedOrders=true) (cI:gf pre tail=true) (hd:(pre.all λo=>Nat.blt (o.dst.getD 0) c.n)=true)
 (run:dY P c H (pre++tail).toArray Q tail (λ_=>[]) 0 Γ pre):(Code.region id (pre++tail).toArray true).wp P Q a w:=by
 obtain⟨xs,run,k⟩:=run;refine wp_region_any hm ?_;obtain⟨hlen,dM⟩:=lF.at (Γ0:=Γ) pre xs 0 [] (by simpa[ck] using run) (λe he=>by simp at he);have hf:∀i:Nat,(Array.replicate (pre++tail).length false).getD i false=false:=λi=>by
  rw[Array.getD_eq_getD_getElem?,Array.getElem?_replicate];split<;>rfl
 have AP:∀(a:Act),made (λi=>(Array.replicate (pre++tail).length false).getD i false) a 0 pre xs=[]:=λa=>by
  rw[jz (S':=λ_=>false) λi o x f _ _=>hf _];have key:∀(k:Nat) (os:List Oper) (xs:List (AV×Mk)),made (λ_=>false) a k os xs=[]:=by
   intro k os;induction os generalizing k with
   |nil=>intro xs;unfold made;rfl
   |cons o os ih=>
    intro xs
    cases xs with
    |nil=>simp[made]
    |cons x xs=>
     obtain⟨x,r⟩:=x
     cases r with
     |none=>simp only[made];exact ih _ _
     |some f=>simp only[made,cond_false];exact ih _ _
  exact key _ _ _
 have:=AI (P:=P) (c:=c) (H:=H) (Γ:=Γ) (Q:=Q) cI hlen (by simpa using hd) (λi o x ho hx=>by simpa using dM i o x ho hx) (λI' a' w' h=>by
  rw[<-tW] at h;exact k I' a' w' (by simpa using h)) (pre++tail).length (Array.replicate (pre++tail).length false) I a {w with drawn:=w.drawn+1} aJ
  (by simpa using List.length_filter_le _ (List.range (pre++tail).length)) (λi hi h=>by rw[hf] at h;cases h) (λi o ho hi=>by rw[hf] at hi;cases hi) (by
    have he:(cg 0 pre (xs.map (·.1))).reverse.filter (λe=>(Array.replicate (pre++tail).length false).getD e.1 false)=[]:=by
     rw[List.filter_eq_nil_iff];intro e _;rw[hf];simp
    rw[he,AP,List.append_nil];exact⟨⟨U.step.le,U.step.cR,U.step.bO,U.step.below.drew⟩,⟨λo ho=>⟨o.fy I I w _ (Im.le_refl I) (λ_ _=>rfl) (U.own.all o ho).1,(U.own.all o ho).2⟩,U.own.apart⟩,U.env,U.size,U.defers⟩)
 simpa using this
def St.AQ {id:Nat} {l:List Oper} (n:Nat) (U:St c I H Γ a w) (hm:P.follows .mixedOrders=true) (cI:gf (l.take n) (l.drop n)=true) (hd:((l.take n).all λo=>Nat.blt (o.dst.getD 0) c.n)=true)
 (run:dY P c H l.toArray Q (l.drop n) (λ_=>[]) 0 Γ (l.take n)):(Code.region id l.toArray true).wp P Q a w:=by
 have e:l.take n++l.drop n=l:=List.take_append_drop n l;have:=U.uN (id:=id) (Q:=Q) (l.take n) (l.drop n) hm cI hd (by rw[e];exact run);rwa[e] at this
def fh (P:Program) (c:Ctx) (H:List Own) (ops:Array Oper) (Q:Exit->Act->World->Prop) (tail:List Oper) (Γ:Env) (os:List Oper):Prop:=∀k,dY P c H ops Q tail (λ_=>[]) k Γ os
def fh.nil {ops:Array Oper} {tail:List Oper} (k:∀I' a' w',St c I' H Γ a' w'->wpList P ops Q tail a' w'):fh P c H ops Q tail Γ []:=λ_=>.nil λI a w U=>k I a w (by simpa using U)
def fh.cons {ops:Array Oper} {tail:List Oper} {o:Oper} {os:List Oper} {x:AV} (h:gA P H ops (Γ.only (o.looksAt ops)) o x) (k:fh P c H ops Q tail ((o.dst.getD 0,x)::Γ) os):fh P c H ops Q tail Γ (o::os):=λn=>.cons h (k (n+1))
def St.AR {id:Nat} {l:List Oper} (n:Nat) (U:St c I H Γ a w) (hm:P.follows .mixedOrders=true) (cI:gf (l.take n) (l.drop n)=true) (hd:((l.take n).all λo=>Nat.blt (o.dst.getD 0) c.n)=true)
 (run:fh P c H l.toArray Q (l.drop n) Γ (l.take n)):(Code.region id l.toArray true).wp P Q a w:=U.AQ n hm cI hd (run 0)
def dy (P:Program) (c:Ctx) (H:List Own) (ops:Array Oper) (Q:Exit->Act->World->Prop) (Γ:Env) (os:List Oper):Prop:=fh P c H ops Q [] Γ os
def dy.nil {ops:Array Oper} (k:∀I' a' w',St c I' H Γ a' w'->Q .normal a' w'):dy P c H ops Q Γ []:=fh.nil λI a w h=>wpList_nil (k I a w h)
def dy.cons {ops:Array Oper} {o:Oper} {os:List Oper} {x:AV} (h:gA P H ops (Γ.only (o.looksAt ops)) o x) (k:dy P c H ops Q ((o.dst.getD 0,x)::Γ) os):dy P c H ops Q Γ (o::os):=fh.cons h k
def St.AS {id:Nat} {l:List Oper} (U:St c I H Γ a w) (hm:P.follows .mixedOrders=true) (cI:gf l []=true) (hd:(l.all λo=>Nat.blt (o.dst.getD 0) c.n)=true)
 (run:dy P c H l.toArray Q Γ l):(Code.region id l.toArray true).wp P Q a w:=by
 have:=U.uN (id:=id) (Q:=Q) l [] hm cI hd (by rw[List.append_nil];exact run 0);rwa[List.append_nil] at this
end
def bG {f:FuncId} {l:List AV}:(AV.fn f l).One:=λ_ _ ⟨_,e,_⟩=>by rw[e];rfl
section
variable {P:Program}
def ou (T:TypeId) (o:Nat):List Field->Bool
 |[]=>true
 |f::fs=>(f.name != "_" &&f.type==T&&f.offset==o)&&ou T (o+1) fs
def uO {T m:TypeId} {zv:Value} (hT:P.underlying T=some (.int .i64)) (hy:Ty P T false 1 m zv) (d:Nat):∀(fs:List Field) (o:Nat) (pre xs ys lK:List Int) (w:World),ou T o fs=true->pre.length=o->lK.length=o->xs.length=fs.length->ys.length=fs.length->
 (Op.eqFields (d+1) ((pre++xs).map (Value.int .i64)).toArray ((lK++ys).map (Value.int .i64)).toArray fs).run P w=.ok (xs==ys) w
 |[],o,pre,[],[],lK,w,_,_,_,_,_=>by simp[Op.eqFields,Sem.run_pure]
 |f::fs,o,pre,x::xs,y::ys,lK,w,h,hp,hq,hx,kj=>by
  simp only[ou,Bool.and_eq_true,beq_iff_eq,bne_iff_ne] at h;obtain⟨⟨⟨h1,h2⟩,h3⟩,h4⟩:=h;have ih:=uO hT hy d fs (o+1) (pre++[x]) xs ys (lK++[y]) w h4 (by simp[hp]) (by simp[hq]) (by simpa using hx) (by simpa using kj);rw[List.append_assoc,List.append_assoc] at ih;have uP:∀(pre l:List Int) (x:Int),pre.length=o->(part T ((pre++x::l).map (Value.int .i64)).toArray o).run P w=.ok (.int .i64 x) w:=λpre l x hl=>by
   have e:((pre++x::l).map (Value.int .i64)).toArray[o]?=some (.int .i64 x):=by
    simp[List.getElem?_append_right,hl]
   simp only[part,Sem.run_bind,hy.isAgg,Result.andThen_ok,Bool.false_eq_true,if_false,e,Sem.run_pure]
  simp only[Op.eqFields];rw[if_pos h1,h2,h3];simp only[Sem.run_bind,uP pre xs x hp,uP lK ys y hq,Result.andThen_ok,run_equalIn_int w d T .i64 .i64 x y hT];by_cases qR:x=y
  .subst qR;simp only[beq_self_eq_true,Bool.not_true,Bool.false_eq_true,if_false];have e:((x::xs)==(x::ys))=(xs==ys):=by simp[List.cons_beq_cons]
   rw[e];exact ih
  have e:(x==y)=false:=by simpa using qR
  have e2:((x::xs)==(y::ys))=false:=by simp[qR]
  simp[e,e2,Sem.run_pure]
 |[],_,_,_::_,_,_,_,_,_,_,h,_=>by simp at h
 |[],_,_,[],_::_,_,_,_,_,_,_,h=>by simp at h
 |_::_,_,_,[],_,_,_,_,_,_,h,_=>by simp at h
 |_::_,_,_,_::_,[],_,_,_,_,_,_,h=>by simp at h
def lD.flat {T T3 m n:Nat} {zv:Value} (hT:P.underlying T3=some (.int .i64)) (hy:Ty P T3 false 1 m zv) (gd:P.eqGuardType P.depth T=false) (hu:P.underlying T=some (.struct (P.fieldsOf T))) (hp:P.stoodInHeld T=false) (hf:ou T3 0 (P.fieldsOf T).toList=true) (hn:(P.fieldsOf T).toList.length=n):lD P T n:=
 ⟨gd,λxs ys w hx kj=>by
  rw[run_equalIn_agg w 9999 T _ _ hu hp];exact uO hT hy 9998 (P.fieldsOf T).toList 0 [] xs ys [] w hf rfl rfl (by rw[hx,hn]) (by rw[kj,hn])⟩
end
def Fn.uQ {P:Program} {f:FuncId} {args:List AV} {res:AV} (h:Fn P f args res):ga P (AV.val (.func (.func f) #[] #[])) args res:=λI w v vs hm e ha=>
 ⟨f,#[],#[],e,h.1,by simpa using h.2 I w vs hm ha⟩
end Go.Proofs.YtldbakcpcfdlaaaGreat
