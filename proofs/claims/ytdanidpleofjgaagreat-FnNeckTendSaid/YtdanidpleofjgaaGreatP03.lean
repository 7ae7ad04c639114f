/- Part 3: rules of the proofs. -/
import Derived.Lib.ItoaNum
import Derived.Laws.BytesString
import Derived.Laws.DeepStrings4
import Derived.Lib.SlBytesRow
import Derived.Lib.Strings
import Derived.Lib.ItoaLen
import Derived.Test.YtdanidpleofjgaaGreatP02
set_option linter.all false
namespace Go.Proofs.YtdanidpleofjgaaGreat
open Go Go.RowKit
def bX.perm {base:Nat->Prop} {I:Im} {w:World} {H H':List Own} (h:bX base I w H) (hp:H.Perm H'):bX base I w H':=
 ⟨λo ho=>h.all o (hp.mem_iff.2 ho),(hp.pairwise_iff λh=>h.symm).1 h.apart⟩
def bX.left {base:Nat->Prop} {I:Im} {w:World} {H K:List Own} (h:bX base I w (H++K)):bX base I w H:=
 ⟨λo ho=>h.all o (List.mem_append_left _ ho),h.apart.sublist (List.sublist_append_left H K)⟩
abbrev Mk:=Option (Value->Own)
def CU (P:Program) (H:List Own) (ops:Array Oper) (Γ:Env) (o:Oper) (x:AV) (r:Mk):Prop:=
 ∀(base:Nat->Prop) (I:Im) (a:Act) (w:World) (K:Act->World->Prop) (Q:Exit->Act->World->Prop),cY I a Γ->dT w I->bX base I w H->
  (∀v I' w',x.h I' v->Step I w I' w'->(∀f,r=some f->(f v).ok I' w'/\∀b,(f v).gB b->w.heap.size<=b/\I' b=none/\b<w'.heap.size)->K (a.put o.dst v) w')->
  if Region.wanted o (yielded ops a.tmps) then o.wp P a w K Q else K (a.put o.dst undef) w
def py.r {P:Program} {H:List Own} {ops:Array Oper} {Γ:Env} {o:Oper} {x:AV} (h:py P H ops Γ o x):CU P H ops Γ o x none:=
 λbase I a w K Q he hm hw k=>h base I a w K Q he hm hw λv I' w' hx U=>k v I' w' hx U λf e=>by cases e
def made (S:Nat->Bool) (a:Act):Nat->List Oper->List (AV×Mk)->List Own
 |k,o::os,(_,some f)::xs=>bif S k then f (a.tmps.getD (o.dst.getD 0) undef)::made S a (k+1) os xs else made S a (k+1) os xs
 |k,_::os,(_,none)::xs=>made S a (k+1) os xs
 |_,_,_=>[]
def Gi {S:Nat->Bool} {a a':Act}:∀{k:Nat} {os:List Oper} {xs:List (AV×Mk)},(∀(i:Nat) (o:Oper) (x:AV) (f:Value->Own),os[i]?=some o->xs[i]?=some (x,some f)->S (k+i)=true->a.tmps.getD (o.dst.getD 0) undef=a'.tmps.getD (o.dst.getD 0) undef)->made S a k os xs=made S a' k os xs
 |_,[],_,_=>by unfold made;rfl
 |_,_::_,[],_=>by simp[made]
 |k,o::os,(x,some f)::xs,h=>by
  have ih:=Gi (S:=S) (a:=a) (a':=a') (k:=k+1) (os:=os) (xs:=xs) λi o' x' f' h1 h2 h3=>h (i+1) o' x' f' (by simpa using h1) (by simpa using h2) (by rw[show k+(i+1)=k+1+i from by omega];exact h3);simp only[made];cases hS:S k
  .exact ih
  rw[h 0 o x f rfl rfl hS,ih]
 |k,o::os,(x,none)::xs,h=>by
  simp only[made];exact Gi λi o' x' f' h1 h2 h3=>h (i+1) o' x' f' (by simpa using h1) (by simpa using h2) (by rw[show k+(i+1)=k+1+i from by omega];exact h3)
def uw {S S':Nat->Bool} {a:Act}:∀{k:Nat} {os:List Oper} {xs:List (AV×Mk)},(∀(i:Nat) (o:Oper) (x:AV) (f:Value->Own),os[i]?=some o->xs[i]?=some (x,some f)->S (k+i)=S' (k+i))->made S a k os xs=made S' a k os xs
 |_,[],_,_=>by unfold made;rfl
 |_,_::_,[],_=>by simp[made]
 |k,o::os,(x,some f)::xs,h=>by
  simp only[made];rw[show S k=S' k from h 0 o x f rfl rfl,uw (S:=S) (S':=S') (k:=k+1) (os:=os) (xs:=xs) λi o' x' f' h1 h2=>by
   have:=h (i+1) o' x' f' (by simpa using h1) (by simpa using h2);rw[show k+1+i=k+(i+1) from by omega];exact this]
 |k,o::os,(x,none)::xs,h=>by
  simp only[made];exact uw λi o' x' f' h1 h2=>by
   have:=h (i+1) o' x' f' (by simpa using h1) (by simpa using h2);rw[show k+1+i=k+(i+1) from by omega];exact this
def Gj {S:Nat->Bool} {a:Act}:∀{k i:Nat} {os:List Oper} {xs:List (AV×Mk)} {o:Oper} {x:AV} {f:Value->Own},os[i]?=some o->xs[i]?=some (x,some f)->S (k+i)=false->
 (f (a.tmps.getD (o.dst.getD 0) undef)::made S a k os xs).Perm (made (λj=>if j=k+i then true else S j) a k os xs)
 |k,0,o'::os,(x',m)::xs,o,x,f,h1,h2,h3=>by
  simp at h1 h2;obtain⟨rfl,rfl⟩:=h2;subst h1;simp only[made];have Vk:S k=false:=h3;rw[Vk];simp only[Nat.add_zero,if_true,cond_true,cond_false];rw[uw (S:=S) (S':=λj=>if j=k then true else S j) λi o' x' f' _ _=>by rw[if_neg om]]
 |k,i+1,o'::os,(x',some f')::xs,o,x,f,h1,h2,h3=>by
  have ih:=Gj (S:=S) (a:=a) (k:=k+1) (i:=i) (os:=os) (xs:=xs) (o:=o) (x:=x) (f:=f) (by simpa using h1) (by simpa using h2) (by rw[show k+1+i=k+(i+1) from by omega];exact h3);rw[show k+1+i=k+(i+1) from by omega] at ih;simp only[made];rw[if_neg om];cases S k
  .exact ih
  exact(List.Perm.swap _ _ _).trans (ih.cons _)
 |k,i+1,o'::os,(x',none)::xs,o,x,f,h1,h2,h3=>by
  have ih:=Gj (S:=S) (a:=a) (k:=k+1) (i:=i) (os:=os) (xs:=xs) (o:=o) (x:=x) (f:=f) (by simpa using h1) (by simpa using h2) (by rw[show k+1+i=k+(i+1) from by omega];exact h3);rw[show k+1+i=k+(i+1) from by omega] at ih;simp only[made];exact ih
 |_,_,[],_,_,_,_,h1,_,_=>by simp at h1
 |_,_,_::_,[],_,_,_,_,h2,_=>by simp at h2
def yj (P:Program) (H:List Own) (ops:Array Oper):Env->List Oper->List (AV×Mk)->Prop
 |_,[],[]=>True
 |Γ,o::os,x::xs=>CU P H ops (Γ.only (o.looksAt ops)) o x.1 x.2/\yj P H ops ((o.dst.getD 0,x.1)::Γ) os xs
 |_,_,_=>False
def yj.at {P:Program} {H:List Own} {ops:Array Oper} {Γ0:Env}:∀(os:List Oper) (xs:List (AV×Mk)) (k:Nat) (done:List oH),yj P H ops (eZ done++Γ0) os xs->(∀e∈done,e.1<k)->
 os.length=xs.length/\∀i o x,os[i]?=some o->xs[i]?=some x->CU P H ops ((eZ (((eY k os (xs.map (·.1))).reverse++done).filter λe=>decide (e.1<k+i))++Γ0).only (o.looksAt ops)) o x.1 x.2
 |[],[],_,_,_,_=>⟨rfl,λi o x h=>by simp at h⟩
 |o::os,x::xs,k,done,h,hd=>by
  obtain⟨h1,h2⟩:=h;have ih:=yj.at os xs (k+1) ((k,o.dst.getD 0,x.1)::done) h2 (λe he=>by
   rcases List.mem_cons.1 he with rfl|he
   .simp
   have:=hd e he;omega)
  refine⟨by simp[ih.1],λi o' x' ho hx=>?_⟩;have Ab:(eY k (o::os) ((x::xs).map (·.1))).reverse++done=(eY (k+1) os (xs.map (·.1))).reverse++((k,o.dst.getD 0,x.1)::done):=by simp[eY]
  rw[Ab];cases i with
  |zero=>
   simp at ho hx;subst ho hx
   have hf:((eY (k+1) os (xs.map (·.1))).reverse++((k,o.dst.getD 0,x.1)::done)).filter (λe=>decide (e.1<k+0))=done:=by
    rw[List.filter_append];have e1:(eY (k+1) os (xs.map (·.1))).reverse.filter (λe=>decide (e.1<k+0))=[]:=by
     rw[List.filter_eq_nil_iff];intro e he;have:=(CJ (k+1) os (xs.map (·.1))).2 e (List.mem_reverse.1 he);simp;omega
    rw[e1,List.filter_cons];simp only[Nat.add_zero,Nat.lt_irrefl,decide_false,Bool.false_eq_true,if_false,List.nil_append];rw[List.filter_eq_self];intro e he;simpa using hd e he
   rw[hf];exact h1
  |succ i=>
   have:=ih.2 i o' x' (by simpa using ho) (by simpa using hx)
   rw[show k+(i+1)=k+1+i from by omega]
   exact this
 |[],_::_,_,_,h,_=>h.elim
 |_::_,[],_,_,h,_=>h.elim
def nc (pre tail:List Oper):Bool:=
 let l:=pre++tail
 let C:=jz [] l
 let p:=pre.length
 (l.zipIdx.all λ(o,i)=>(o.after.toList.all λe=>!Region.binds .any e||Nat.blt e.on i))&&
 (pre.zipIdx.all λ(o,i)=>o.dst.isSome&&
   ((slotsOf l.toArray o).all λt=>pre.zipIdx.all λ(o',j)=>Nat.beq i j||!(o'.dst==some t)||(if j<i then(C.getD i []).contains j else(C.getD j []).contains i))&&
   (pre.zipIdx.all λ(o',j)=>Nat.beq i j||!(o'.dst==o.dst)))&&
 (List.range tail.length).all λi=>(List.range (p+i)).all λj=>(C.getD (p+i) []).contains j
def Gk {pre tail:List Oper} (h:nc pre tail=true) {i:Nat} {o:Oper} (ho:(pre++tail)[i]?=some o):∀e∈o.after.toList,Region.binds .any e=true->e.on<i:=λe he hb=>by
 simp only[nc,List.all_eq_true,Bool.and_eq_true] at h;have hm:(o,i)∈(pre++tail).zipIdx:=by rw[List.mem_zipIdx_iff_getElem?];exact ho
 have:=h.1.1 _ hm e he;rw[hb] at this;simpa using this
def Gl {pre tail:List Oper} (h:nc pre tail=true) {i:Nat} {o:Oper} (ho:pre[i]?=some o):
 (∃d,o.dst=some d)/\(∀t∈slotsOf (pre++tail).toArray o,∀j o',pre[j]?=some o'->i≠j->o'.dst=some t->if j<i then j∈(jz [] (pre++tail)).getD i [] else i∈(jz [] (pre++tail)).getD j [])/\
 ∀j o',pre[j]?=some o'->i≠j->o'.dst≠o.dst:=by
 simp only[nc,List.all_eq_true,Bool.and_eq_true] at h;have hm:(o,i)∈pre.zipIdx:=by rw[List.mem_zipIdx_iff_getElem?];exact ho
 obtain⟨⟨h1,h3⟩,h4⟩:=h.1.2 _ hm;have hb:∀j,i≠j->Nat.beq i j=false:=λj aZ=>by
  cases hb:Nat.beq i j with
  |false=>rfl
  |true=>exact absurd (Nat.eq_of_beq_eq_true hb) aZ
 refine⟨Option.isSome_iff_exists.1 h1,λt ht j o' kz aZ hd=>?_,λj o' kz aZ hd=>?_⟩
 .have m7:(o',j)∈pre.zipIdx:=by rw[List.mem_zipIdx_iff_getElem?];exact kz
  have:=h3 t ht _ m7;simp only[hb j aZ,hd,Bool.false_or] at this;have h5:(!(some t==some t))=false:=by simp
  rw[h5,Bool.false_or] at this;split
  .rename_i bK;rw[if_pos bK] at this;simpa using this
  rename_i bK;rw[if_neg bK] at this;simpa using this
 have m7:(o',j)∈pre.zipIdx:=by rw[List.mem_zipIdx_iff_getElem?];exact kz
 have:=h4 _ m7;simp only[hb j aZ,hd,Bool.false_or] at this;simp at this
def Gm {pre tail:List Oper} (h:nc pre tail=true) {i j:Nat} (hi:pre.length<=i) (jm:i<(pre++tail).length) (hj:j<i):j∈(jz [] (pre++tail)).getD i []:=by
 simp only[nc,List.all_eq_true,Bool.and_eq_true] at h;have:=h.2 (i-pre.length) (by simp at jm⊢;omega) j fT;rw[show pre.length+(i-pre.length)=i from by omega] at this;simpa using this
section
variable {P:Program} {c:Ctx} {I:Im} {H:List Own} {Γ:Env} {a:Act} {w:World} {Q:Exit->Act->World->Prop}
def yk {listed:Array Bool} {i:Nat} (h:i<listed.size):listed.getD i true=listed.getD i false:=by simp[h]
def Gn {pre tail:List Oper} {listed:Array Bool} (cN:listed.size=(pre++tail).length)
 (aQ:∀(i:Nat) (o:Oper),(pre++tail)[i]?=some o->listed.getD i false=true->∀e∈o.after.toList,Region.binds .any e=true->listed.getD e.on false=true) {i:Nat} {o:Oper} (ho:(pre++tail)[i]?=some o)
 (h3:∀e∈o.after.toList,Region.binds .any e=true->listed.getD e.on false=true):∀j,j≠i->j∈(jz [] (pre++tail)).getD i []->listed.getD j false=true:=λj Aq hj=>by
 have bK:i<(pre++tail).length:=(List.getElem?_eq_some_iff.1 ho).1;have jC:∀j,(listed.setIfInBounds i true).getD j false=if j=i then true else listed.getD j false:=λj=>CK om false
 have Vl:=CI (S:=λj=>(listed.setIfInBounds i true).getD j false) (pre++tail) [] (λi k hk=>by simp at hk) (λi' o' kz qp e he hb=>by
  have jm:(listed.setIfInBounds i true).getD i' false=true:=by simpa using qp
  show(listed.setIfInBounds i true).getD e.on false=true;rw[jC] at jm⊢;split
  .rfl
  split at jm
  .rename_i Ar;subst Ar;rw[ho] at kz;cases kz;exact h3 e he hb
  exact aQ i' o' kz jm e he hb)
 have h':=Vl i j hj (by show(listed.setIfInBounds i true).getD i false=true;rw[jC];simp);have Vm:(listed.setIfInBounds i true).getD j false=true:=h';rwa[jC,if_neg Aq] at Vm
def CV {pre tail:List Oper} (hE:∀{i:Nat} {o:Oper},(pre++tail)[i]?=some o->∀e∈o.after.toList,Region.binds .any e=true->e.on<i)
 (hT:∀{i j:Nat},pre.length<=i->i<(pre++tail).length->j<i->j∈(jz [] (pre++tail)).getD i []):∀(m j:Nat) (listed:Array Bool) (fuel:Nat) (a:Act) (w:World),(pre++tail).length-j=m->pre.length<=j->j<=(pre++tail).length->m<=fuel->listed.size=(pre++tail).length->
 (∀i,i<(pre++tail).length->(listed.getD i false=true↔i<j))->wpList P (pre++tail).toArray Q ((pre++tail).drop j) a w->wpAny P .any (pre++tail).toArray Q fuel listed a w:=by
 intro m;induction m with
 |zero=>
  intro j listed fuel a w hm hp hj hf cN hl h
  have sY:j=(pre++tail).length:=by omega
  have oK:(pre++tail).drop j=[]:=by rw[sY];simp
  rw[oK] at h
  have MI:Region.ready .any (pre++tail).toArray listed=[]:=by
   rw[List.eq_nil_iff_forall_not_mem];intro i hi;obtain⟨h1,o,h2,_⟩:=mem_ready.1 hi;have bK:i<(pre++tail).length:=by have:=(Array.getElem?_eq_some_iff.1 h2).1;simpa using this
   have h4:=(hl i bK).2 om;have h5:listed.getD i true=listed.getD i false:=yk om;rw[h5,h4] at h1;cases h1
  cases fuel with
  |zero=>exact⟨MI,h⟩
  |succ fuel=>exact⟨λ_=>h,λi hi=>by rw[MI] at hi;cases hi⟩
 |succ m ih=>
  intro j listed fuel a w hm hp hj hf cN hl h
  have kY:j<(pre++tail).length:=by omega
  cases fuel with
  |zero=>omega
  |succ fuel=>
   have aQ:∀(i:Nat) (o:Oper),(pre++tail)[i]?=some o->listed.getD i false=true->∀e∈o.after.toList,Region.binds .any e=true->listed.getD e.on false=true:=λi o ho hi e he hb=>by
    have bK:i<(pre++tail).length:=(List.getElem?_eq_some_iff.1 ho).1;have h1:=(hl i bK).1 hi;have h2:=hE ho e he hb;exact(hl e.on om).2 om
   have hd:∀i,i<(pre++tail).length->listed.getD i true=listed.getD i false:=λi hi=>yk om
   have Vn:∀i∈Region.ready .any (pre++tail).toArray listed,i=j:=λi hi=>by
    obtain⟨h1,o,h2,h3⟩:=mem_ready.1 hi;have bK:i<(pre++tail).length:=by have:=(Array.getElem?_eq_some_iff.1 h2).1;simpa using this
    have ho:(pre++tail)[i]?=some o:=by simpa using h2
    have yl:¬i<j:=λh'=>by rw[hd i bK,(hl i bK).2 h'] at h1;cases h1
    by_cases jA:i=j
    .exact jA
    have hb:=Gn cN aQ ho (λe he hb=>h3 e (by simpa using he) hb) j (λe=>jA e.symm) (hT om bK om);have:=(hl j kY).1 hb;omega
   refine⟨λhr=>?_,λi hi=>?_⟩
   .exfalso
    have:j∈Region.ready .any (pre++tail).toArray listed:=by
     refine mem_ready.2 ⟨?_,(pre++tail)[j],by simp[kY],λe he hb=>?_⟩
     .rw[hd j kY];cases hb:listed.getD j false with
      |false=>rfl
      |true=>have:=(hl j kY).1 hb;omega
     have h2:=hE (i:=j) (o:=(pre++tail)[j]) (by simp[kY]) e (by simpa using he) hb;exact(hl e.on om).2 h2
    rw[hr] at this;cases this
   obtain rfl:=Vn i hi
   have oK:(pre++tail).drop i=(pre++tail)[i]::(pre++tail).drop (i+1):=List.drop_eq_getElem_cons kY
   rw[oK] at h
   have MJ:∀a w,wpList P (pre++tail).toArray Q ((pre++tail).drop (i+1)) a w->wpAny P .any (pre++tail).toArray Q fuel (listed.setIfInBounds i true) a w:=λa w h'=>
    ih (i+1) (listed.setIfInBounds i true) fuel a w om om om om (by simpa using cN) (λk hk=>by
     rw[CK om];split
     .rename_i e;subst e;simp
     rename_i e;rw[hl k hk];omega) h'
   unfold wpOp
   have hg:(pre++tail).toArray[i]?=some (pre++tail)[i]:=by simp[kY]
   simp only[hg]
   unfold wpList at h
   by_cases hw:Region.wanted (pre++tail)[i] (yielded (pre++tail).toArray a.tmps)=true
   .rw[if_pos hw] at h⊢;exact h.imp (Oper.wp_mono MJ) id
   rw[if_neg hw] at h⊢;exact MJ _ _ h
def MK {pre tail:List Oper} {listed:Array Bool} {n:Nat} (hf:((List.range (pre++tail).length).filter λi=>!listed.getD i false).length<=n) (oL:∀i,i<(pre++tail).length->listed.getD i false=true->i<pre.length) (aT:∀i,i<pre.length->listed.getD i false=true):(pre++tail).length-pre.length<=n:=by
 have h1:((List.range (pre++tail).length).filter λi=>!listed.getD i false)=(List.range (pre++tail).length).filter λi=>decide (pre.length<=i):=by
  apply List.filter_congr;intro i hi;have qp:i<(pre++tail).length:=by simpa using hi
  cases hb:listed.getD i false with
  |true=>have:=oL i qp hb;simp;omega
  |false=>
   have:¬i<pre.length:=λh=>by rw[aT i h] at hb;cases hb
   simp;omega
 rw[h1] at hf;have h2:((List.range (pre++tail).length).filter λi=>decide (pre.length<=i)).length=(pre++tail).length-pre.length:=by
  have:(List.range (pre++tail).length)=List.range pre.length++(List.range tail.length).map (pre.length+·):=by
   rw[List.length_append,List.range_add]
  rw[this,List.filter_append];have a1:(List.range pre.length).filter (λi=>decide (pre.length<=i))=[]:=by
   rw[List.filter_eq_nil_iff];intro i hi;simp at hi⊢;omega
  have a2:((List.range tail.length).map (pre.length+·)).filter (λi=>decide (pre.length<=i))=(List.range tail.length).map (pre.length+·):=by
   rw[List.filter_eq_self];intro i hi;simp at hi⊢;omega
  rw[a1,a2];simp
 omega
def Vo {pre tail:List Oper} {xs:List (AV×Mk)} (fX:nc pre tail=true) (hlen:pre.length=xs.length) (hd:∀o∈pre,Nat.blt (o.dst.getD 0) c.n=true)
 (run:∀i o x,pre[i]?=some o->xs[i]?=some x->CU P H (pre++tail).toArray ((eZ ((eY 0 pre (xs.map (·.1))).reverse.filter λe=>decide (e.1<i))++Γ).only (o.looksAt (pre++tail).toArray)) o x.1 x.2)
 (k:∀I' a' w',St c I' (H++made (λ_=>true) a' 0 pre xs) (eZ (eY 0 pre (xs.map (·.1))).reverse++Γ) a' w'->wpList P (pre++tail).toArray Q tail a' w'):
 ∀(fuel:Nat) (listed:Array Bool) (I:Im) (a:Act) (w:World),listed.size=(pre++tail).length->((List.range (pre++tail).length).filter λi=>!listed.getD i false).length<=fuel->
  (∀i,i<(pre++tail).length->listed.getD i false=true->i<pre.length)->
  (∀(i:Nat) (o:Oper),(pre++tail)[i]?=some o->listed.getD i false=true->∀e∈o.after.toList,Region.binds .any e=true->listed.getD e.on false=true)->
  St c I (H++made (λi=>listed.getD i false) a 0 pre xs) (eZ ((eY 0 pre (xs.map (·.1))).reverse.filter λe=>listed.getD e.1 false)++Γ) a w->wpAny P .any (pre++tail).toArray Q fuel listed a w:=by
 have hL:(eY 0 pre (xs.map (·.1))).reverse.Pairwise (λe f=>f.1<e.1):=by
  rw[List.pairwise_reverse];exact(CJ 0 pre (xs.map (·.1))).1
 have rK:∀e∈(eY 0 pre (xs.map (·.1))).reverse,∃o',pre[e.1]?=some o'/\o'.dst=some e.2.1:=λe he=>by
  obtain⟨j,o',g1,_,g3,g4⟩:=Mh (List.mem_reverse.1 he);obtain⟨d',j0⟩:=(Gl fX g1).1;refine⟨o',by rw[g3,Nat.zero_add];exact g1,?_⟩;rw[g4,j0];rfl
 intro fuel;induction fuel with
 |zero=>
  intro listed I a w cN hf oL aQ U
  have h0:∀i,i<(pre++tail).length->listed.getD i false=true:=λi hi=>by
   have:(List.range (pre++tail).length).filter (λi=>!listed.getD i false)=[]:=List.eq_nil_of_length_eq_zero om;rw[List.filter_eq_nil_iff] at this;simpa using this i (by simpa using hi)
  have jq:tail=[]:=by
   rcases tail with _|⟨t,ts⟩
   .rfl
   have:=oL pre.length bt (h0 pre.length bt);omega
  have e1:(eY 0 pre (xs.map (·.1))).reverse.filter (λe=>listed.getD e.1 false)=(eY 0 pre (xs.map (·.1))).reverse:=by
   rw[List.filter_eq_self];intro e he;obtain⟨o',h1,_⟩:=rK e he;have:=(List.getElem?_eq_some_iff.1 h1).1;exact h0 e.1 fT
  have e2:made (λi=>listed.getD i false) a 0 pre xs=made (λ_=>true) a 0 pre xs:=uw λi o x f h1 h2=>by
   have:=(List.getElem?_eq_some_iff.1 h1).1;rw[Nat.zero_add];exact h0 i fT
  rw[e1,e2] at U
  have hw:=k I a w U
  exact CV (Gk fX) (Gm fX) 0 (pre++tail).length listed 0 a w om bt om om cN (λi hi=>⟨λ_=>hi,λ_=>h0 i hi⟩) (by subst jq;simpa using hw)
 |succ fuel ih=>
  intro listed I a w cN hf oL aQ U
  by_cases aT:∀i,i<pre.length->listed.getD i false=true
  .have e1:(eY 0 pre (xs.map (·.1))).reverse.filter (λe=>listed.getD e.1 false)=(eY 0 pre (xs.map (·.1))).reverse:=by
    rw[List.filter_eq_self];intro e he;obtain⟨o',h1,_⟩:=rK e he;exact aT e.1 (List.getElem?_eq_some_iff.1 h1).1
   have e2:made (λi=>listed.getD i false) a 0 pre xs=made (λ_=>true) a 0 pre xs:=uw λi o x f h1 h2=>by
    rw[Nat.zero_add];exact aT i (List.getElem?_eq_some_iff.1 h1).1
   rw[e1,e2] at U
   have Vp:=MK hf oL aT
   refine CV (Gk fX) (Gm fX) _ pre.length listed (fuel+1) a w rfl om bt Vp cN (λi hi=>⟨oL i hi,aT i⟩) ?_
   rw[List.drop_left]
   exact k I a w U
  have As:∃i0,i0<pre.length/\listed.getD i0 false=false:=by
   refine Classical.byContradiction λhn=>aT λi hi=>?_;cases hb:listed.getD i false with
   |true=>rfl
   |false=>exact absurd ⟨i,hi,hb⟩ hn
  obtain⟨i0,Au,sZ⟩:=As
  refine⟨λhr=>?_,λi hi=>?_⟩
  .exfalso
   have:∀i,i<(pre++tail).length->listed.getD i false=true:=λi=>by
    induction i using Nat.strongRecOn with
    |_ i z8=>
     intro hi
     cases hl:listed.getD i false with
     |true=>rfl
     |false=>
      have kD:i∈Region.ready .any (pre++tail).toArray listed:=by
       refine mem_ready.2 ⟨by rw[yk om];exact hl,(pre++tail)[i],by simp[hi],λe he hb=>?_⟩;have bK:=Gk fX (i:=i) (o:=(pre++tail)[i]) (by simp[hi]) e (by simpa using he) hb;exact z8 e.on bK om
      rw[hr] at kD;cases kD
   rw[this i0 fT] at sZ;cases sZ
  obtain⟨h1,o,h2,h3⟩:=mem_ready.1 hi
  have bK:i<(pre++tail).length:=by have:=(Array.getElem?_eq_some_iff.1 h2).1;simpa using this
  have jP:(pre++tail)[i]?=some o:=by simpa using h2
  rw[yk om] at h1
  have aJ:=Gn cN aQ jP (λe he hb=>h3 e (by simpa using he) hb)
  have ML:i<pre.length:=by
   refine Classical.byContradiction λhn=>?_;have:=aJ i0 om (Gm fX om bK om);rw[this] at sZ;cases sZ
  have ho:pre[i]?=some o:=by rw[List.getElem?_append_left ML] at jP;exact jP
  obtain⟨⟨d,vX⟩,CW,MM⟩:=Gl fX ho
  have Gp:=CI (S:=λj=>listed.getD j false) (pre++tail) [] (λi k hk=>by simp at hk) (λi o ho hi e he hb=>aQ i o ho (by simpa using hi) e he hb)
  have vY:∀j,i∈(jz [] (pre++tail)).getD j []->listed.getD j false=false:=λj hj=>by
   cases hb:listed.getD j false with
   |false=>rfl
   |true=>rw[Gp j i hj hb] at h1;cases h1
  have jC:∀j,(listed.setIfInBounds i true).getD j false=if j=i then true else listed.getD j false:=λj=>CK om false
  have Gq:∀(i':Nat) (o':Oper),(pre++tail)[i']?=some o'->(listed.setIfInBounds i true).getD i' false=true->∀e∈o'.after.toList,Region.binds .any e=true->(listed.setIfInBounds i true).getD e.on false=true:=λi' o' kz jm e he hb=>by
   rw[jC] at jm⊢;split
   .rfl
   split at jm
   .rename_i Ar;subst Ar;rw[jP] at kz;cases kz;exact h3 e (by simpa using he) hb
   exact aQ i' o' kz jm e he hb
  have na:i<xs.length:=by omega
  have mr:xs[i]?=some xs[i]:=by simp[na]
  generalize xs[i]=x at mr
  obtain⟨x,r⟩:=x
  have Vq:(xs.map (·.1))[i]?=some x:=by simp[mr]
  have jd:=run i o (x,r) ho mr
  have Gr:cY I a ((eZ ((eY 0 pre (xs.map (·.1))).reverse.filter λe=>decide (e.1<i))++Γ).only (o.looksAt (pre++tail).toArray)):=λt y e=>by
   obtain⟨g1,g2⟩:=Env.FX e;have ht:t∈slotsOf (pre++tail).toArray o:=by
    unfold slotsOf;rw[List.mem_append];exact .inr (by simpa using g2)
   rw[Aa (q:=λe=>listed.getD e.1 false) _ (λe he qt=>?_)] at g1
   .exact U.env t y g1
   obtain⟨o',k1,k2⟩:=rK e he;by_cases vZ:e.1=i
   .rw[vZ,h1];simp
   have:=CW t ht e.1 o' k1 (λh=>vZ h.symm) (by rw[k2,qt]);split at this
   .rename_i oM;rw[aJ e.1 vZ this];simpa using oM
   rename_i oM;rw[vY e.1 this];simpa using oM
  have Gs:((List.range (pre++tail).length).filter λj=>!(listed.setIfInBounds i true).getD j false).length<=fuel:=by
   have:=filter_lt (l:=List.range (pre++tail).length) (p:=λj=>!listed.getD j false) (q:=λj=>!(listed.setIfInBounds i true).getD j false) (i:=i) (by simpa using bK) (by simp only[h1];rfl) (by simp only[jC];simp) (λj hj=>by
    simp only[jC] at hj;split at hj
    .cases hj
    exact hj)
   omega
  have Gt:∀j,j<(pre++tail).length->(listed.setIfInBounds i true).getD j false=true->j<pre.length:=λj hj hb=>by
   rw[jC] at hb;split at hb
   .rename_i e;subst e;exact ML
   exact oL j hj hb
  have uu:(i,d,x)∈(eY 0 pre (xs.map (·.1))).reverse:=by
   rw[List.mem_reverse];have:=UQ (k:=0) ho Vq;rwa[vX,Nat.zero_add] at this
  unfold wpOp
  simp only[h2]
  have kG:=jd c.own I a w (wpAny P .any (pre++tail).toArray Q fuel (listed.setIfInBounds i true)) Q Gr U.step.dp U.own.left (λv I' w' hv st Vr=>by
   refine ih (listed.setIfInBounds i true) I' _ w' (by simpa using cN) Gs Gt Gq ?_;rw[vX];have pD:d<c.n:=by
    have:=hd o (List.mem_of_getElem? ho);rw[vX] at this;simpa using this
   have pE:=U.put (d:=d) (x:=x) (v:=v) pD hv st;have rF:made (λi=>listed.getD i false) a 0 pre xs=made (λi=>listed.getD i false) (a.put (some d) v) 0 pre xs:=Gi λj o' x' f' g1 g2 g3=>by
    have Aq:j≠i:=λe=>by subst e;rw[Nat.zero_add,h1] at g3;cases g3
    have aZ:=MM j o' g1 (λe=>Aq e.symm);obtain⟨d',j0⟩:=(Gl fX g1).1;have ux:d≠d':=λe=>aZ (by rw[j0,vX,e]);rw[j0];simp[Act.put,ux]
   have dO:bX c.own I' w' (H++made (λj=>(listed.setIfInBounds i true).getD j false) (a.put (some d) v) 0 pre xs):=by
    have h6:=pE.own;rw[rF] at h6;cases r with
    |none=>
     have e3:made (λj=>(listed.setIfInBounds i true).getD j false) (a.put (some d) v) 0 pre xs=made (λi=>listed.getD i false) (a.put (some d) v) 0 pre xs:=uw λj o' x' f' g1 g2=>by
      have Aq:j≠i:=λe=>by subst e;rw[mr] at g2;cases g2
      rw[Nat.zero_add,jC,if_neg Aq]
     rw[e3];exact h6
    |some f=>
     obtain⟨al,kf⟩:=Vr f rfl
     have dP:(a.put (some d) v).tmps.getD d undef=v:=by simp[Act.put,U.size,pD]
     have hp:=Gj (S:=λi=>listed.getD i false) (a:=a.put (some d) v) (k:=0) ho mr (by rw[Nat.zero_add];exact h1)
     rw[vX] at hp
     simp only[Option.getD_some,dP] at hp
     have e4:made (λj=>if j=0+i then true else listed.getD j false) (a.put (some d) v) 0 pre xs=made (λj=>(listed.setIfInBounds i true).getD j false) (a.put (some d) v) 0 pre xs:=uw λj o' x' f' g1 g2=>by
      rw[jC];simp
     rw[e4] at hp
     have h7:bX c.own I' w' (f v::(H++made (λi=>listed.getD i false) (a.put (some d) v) 0 pre xs)):=by
      refine⟨λo ho=>?_,?_⟩
      .rcases List.mem_cons.1 ho with rfl|ho
       .exact⟨al,λb e=>by
         obtain⟨q1,q2,q3⟩:=kf b e;exact⟨.inl (Nat.le_trans U.step.below.size q1),q2,q3⟩⟩
       exact h6.all o ho
      refine List.pairwise_cons.2 ⟨λy hy b e e'=>?_,h6.apart⟩;rw[<-rF] at hy;have:=((U.own.all y hy).2 b e').2.2;have:=(kf b e).1;omega
     exact h7.perm ((List.perm_middle.symm).trans (hp.append_left H))
   refine⟨pE.step,dO,?_,pE.size,pE.defers⟩;intro t y e;refine pE.env t y ?_;by_cases s0:t=d
   .subst s0;rw[FY (i:=i) (x:=x) _ hL uu (by simp only[jC];simp) (λe he hp qt=>?_)] at e
    .rw[<-e];simp[Env.get]
    obtain⟨o',k1,k2⟩:=rK e he;by_cases hle:e.1<=i
    .exact hle
    have aZ:e.1≠i:=by omega
    exact absurd (by rw[k2,qt,vX]) (MM e.1 o' k1 (λh=>aZ h.symm))
   rw[Aa (q:=λe=>listed.getD e.1 false) _ (λe he qt=>?_)] at e
   .have hb:Nat.beq d t=false:=by
     cases hb:Nat.beq d t with
     |false=>rfl
     |true=>exact absurd (Nat.eq_of_beq_eq_true hb).symm s0
    simp only[Env.get,hb,cond_false];exact e
   obtain⟨o',k1,k2⟩:=rK e he;have aZ:e.1≠i:=λh=>by
    rw[h,ho] at k1;cases k1;rw[vX] at k2;cases k2;exact s0 qt.symm
   simp only[jC,if_neg aZ])
  by_cases hw:Region.wanted o (yielded (pre++tail).toArray a.tmps)=true
  .rw[if_pos hw] at kG⊢;exact .inl kG
  rw[if_neg hw] at kG⊢;exact kG
end
structure cw where
 time:Int
 site:Int
deriving DecidableEq,Inhabited
structure ao where
 key:Int
 ar:cw
deriving DecidableEq,Inhabited
structure aE where
 key:Int
 ar:cw
 val:Int
 aq:Int
 call:Int
 aR:List ao
deriving DecidableEq,Inhabited
structure az where
 kind:Int
 aU:Int
 to:Int
 call:Int
 key:Int
 ar:cw
 val:Int
 yes:Bool
 aR:List ao
 slot:Int
 bf:Int
 an:List aE
 waits:List aE
 aD:List ao
deriving DecidableEq,Inhabited
structure cG where
 bf:Int
 dy:Int
deriving DecidableEq,Inhabited
structure Server where
 site:Int
 up:Bool
 aF:List cG
 an:List aE
 waits:List aE
 aD:List ao
 bj:List ao
deriving DecidableEq,Inhabited
structure Answer where
 key:Int
 yes:Bool
 bm:aE
deriving DecidableEq,Inhabited
structure Call where
 aq:Int
 num:Int
 kind:Int
 keys:List Int
 val:Int
 ctx:List ao
 bE:Int
 end_:Int
 over:Bool
 ar:cw
 aA:List Answer
 aO:List ao
deriving DecidableEq,Inhabited
structure aI where
 time:Int
 aw:List Server
 au:List az
 calls:List Call
 seen:List (List ao)
deriving DecidableEq,Inhabited
structure Ev where
 kind:Int
 at_:Int
 aq:Int
 word:Int
 hO:Int
 slot:Int
 call:Int
 a:Int
 b:Int
 c:Int
 val:Int
deriving DecidableEq,Inhabited
def cw.cells (s:cw):List AV:=[.int s.time,.int s.site]
def ao.cells (d:ao):List AV:=[.int d.key,.int d.ar.time,.int d.ar.site]
def bw (l:List ao):AV:=.rows 3 (l.map ao.cells)
def aE.cells (v:aE):List AV:=[.int v.key,.int v.ar.time,.int v.ar.site,.int v.val,.int v.aq,.int v.call,bw v.aR]
def bQ (l:List aE):AV:=.rows 7 (l.map aE.cells)
def az.cells (w:az):List AV:=[.int w.kind,.int w.aU,.int w.to,.int w.call,.int w.key,.int w.ar.time,.int w.ar.site,.int w.val,.bool w.yes,bw w.aR,.int w.slot,.int w.bf,bQ w.an,bQ w.waits,bw w.aD]
def cQ (l:List az):AV:=.rows 15 (l.map az.cells)
def cG.cells (s:cG):List AV:=[.int s.bf,.int s.dy]
def s7 (l:List cG):AV:=.rows 2 (l.map cG.cells)
def Server.cells (s:Server):List AV:=[.int s.site,.bool s.up,s7 s.aF,bQ s.an,bQ s.waits,bw s.aD,bw s.bj]
def iG (l:List Server):AV:=.rows 7 (l.map Server.cells)
def Answer.cells (a:Answer):List AV:=[.int a.key,.bool a.yes,.int a.bm.key,.int a.bm.ar.time,.int a.bm.ar.site,.int a.bm.val,.int a.bm.aq,.int a.bm.call,bw a.bm.aR]
def oN (l:List Answer):AV:=.rows 9 (l.map Answer.cells)
def jr (k:Int):List AV:=[.int k]
def iz (l:List Int):AV:=.rows 1 (l.map jr)
def Call.cells (c:Call):List AV:=[.int c.aq,.int c.num,.int c.kind,iz c.keys,.int c.val,bw c.ctx,.int c.bE,.int c.end_,.bool c.over,.int c.ar.time,.int c.ar.site,oN c.aA,bw c.aO]
def fB (l:List Call):AV:=.rows 13 (l.map Call.cells)
def dQ (l:List ao):List AV:=[bw l]
def gN (l:List (List ao)):AV:=.rows 1 (l.map dQ)
def aI.cells (w:aI):List AV:=[.int w.time,iG w.aw,cQ w.au,fB w.calls,gN w.seen]
def Ev.cells (e:Ev):List AV:=[.int e.kind,.int e.at_,.int e.aq,.int e.word,.int e.hO,.int e.slot,.int e.call,.int e.a,.int e.b,.int e.c,.int e.val]
def cw.av (s:cw):AV:=.agg s.cells
def ao.av (s:ao):AV:=.agg s.cells
def aE.av (s:aE):AV:=.agg s.cells
def az.av (s:az):AV:=.agg s.cells
def cG.av (s:cG):AV:=.agg s.cells
def Server.av (s:Server):AV:=.agg s.cells
def Answer.av (s:Answer):AV:=.agg s.cells
def Call.av (s:Call):AV:=.agg s.cells
def aI.av (s:aI):AV:=.agg s.cells
def Ev.av (s:Ev):AV:=.agg s.cells
end Go.Proofs.YtdanidpleofjgaaGreat
namespace Go.Proofs.YtdanidpleofjgaaGreat
def je (n:Int):Prop:=-9223372036854775808<=n/\n<=9223372036854775807
def aS (n low high:Int):Bool:=decide (low<=n)&&decide (n<=high)
def cO (n:Int):Bool:=aS n 0 3
def df (n:Int):Bool:=aS n 0 5
def fC (n:Int):Bool:=aS n 0 1
def dr (s:cw):Bool:=aS s.time 1 9999&&cO s.site
def ck (a b:cw):Bool:=decide (a.time<b.time)||(a.time==b.time&&decide (a.site<b.site))
def dX (s:cw):Bool:=s.time==0&&s.site==0
def ld (s:cw):Bool:=dX s||dr s
def bP (n:Int):Int:=if cO n then n/2 else-1
def ee (a b:ao):Bool:=decide (a.key<b.key)||(a.key==b.key&&ck a.ar b.ar)
def dH (last:Int):List ao->Bool
 |[]=>true
 |d::r=>aS d.key (last+1) 5&&dr d.ar&&dH d.key r
def bN (l:List ao):Bool:=dH (-1) l
def de (n:Nat) (f:Nat->Bool):Bool:=decide (∀i,i<n->f i=true)
def fJ {n k:Nat} {f:Nat->Bool} (h:∀i,i<k->f i=true) (hk:n<=k):de n f=true:=by
 simp only[de,decide_eq_true_eq];exactλi hi=>h i om
def fN {n k:Nat} {f:Nat->Bool} (hk:k<n) (h:f k=false):de n f=false:=by
 simp only[de,decide_eq_false_iff_not];exactλhh=>by rw[hh k hk] at h;cases h
def gO {k:Nat} {f:Nat->Bool} (h:∀i,i<k->f i=true) (hf:f k=true):∀i,i<k+1->f i=true:=λi hi=>by
 by_cases e:i=k
 .subst e;exact hf
 exact h i om
def js {n:Nat} {f:Nat->Bool}:de n f=true↔∀i,i<n->f i=true:=by simp[de]
def Av {n m:Nat} {f g:Nat->Bool} (hn:n=m) (h:∀i,i<n->f i=g i):de n f=de m g:=by
 subst hn;rw[Bool.eq_iff_iff,js,js];exact⟨λk i hi=>by rw[<-h i hi];exact k i hi,λk i hi=>by rw[h i hi];exact k i hi⟩
def eQ {α:Type} [Inhabited α] (bD:α->Bool) (less:α->α->Bool) (l:List α) (k:Nat):Bool:=bD (ab l k)&&(decide (k=0)||less (ab l (k-1)) (ab l k))
def uy {α:Type} [Inhabited α] (bD:α->Bool) (less:α->α->Bool) (l:List α) (k:Nat):
 (!bD (ab l k)||(decide (0<(k:Int))&&!less (ab l ((k:Int)-1).toNat) (ab l k)))=!eQ bD less l k:=by
 rw[show((k:Int)-1).toNat=k-1 from by omega];unfold eQ;rcases Nat.eq_zero_or_pos k with rfl|h
 .simp
 have h2:k≠0:=by omega
 have h3:0<k:=h;simp[h2,h3]
def MN (t:Int) (l:List ao):Bool:=de l.length λi=>decide ((ab l i).ar.time<t)
def ef (v:aE):Bool:=df v.key&&dr v.ar&&aS v.val 0 9999&&fC v.aq&&aS v.call 1 99&&bN v.aR&&MN v.ar.time v.aR
def aE.bh (v:aE):ao:=⟨v.key,v.ar⟩
def gu (a b:aE):Bool:=ee a.bh b.bh
def bY (l:List aE):Bool:=decide (l.length<=80)&&de l.length (eQ ef gu l)
def lf (d:ao):Bool:=df d.key&&dr d.ar
def fY (l:List ao):Bool:=decide (l.length<=80)&&de l.length (eQ lf ee l)
def lF (n:Int):Bool:=cO n||aS n 10 11
def bM (w:az):Bool:=
 aS w.kind 1 10&&lF w.aU&&lF w.to&&aS w.call 0 99&&df w.key&&ld w.ar&&aS w.val 0 9999&&bN w.aR&&aS w.slot 0 2&&aS w.bf 0 9999&&
  bY w.an&&bY w.waits&&fY w.aD
def cW (key:Int):Int:=if df key then key*3/6 else-1
open Go
def dec (n:Int):List UInt8:=Lib.itoa n
def written (n:Int):Bool:=aS n 0 99999
def Ev.ints (e:Ev):List Int:=[e.kind,e.at_,e.aq,e.word,e.hO,e.slot,e.call,e.a,e.b,e.c,e.val]
def Ev.Fit (e:Ev):Prop:=∀x∈e.ints,je x
def Vs (ns:List Int):List UInt8:=(ns.map λn=>32::dec n).flatten
structure Form where
 word:List UInt8
 ev:Ev
 MO:List Nat
deriving DecidableEq,Inhabited
def Form.MP (f:Form) (e:Ev):List Int:=f.MO.map λo=>e.ints.getD o 0
def Form.made (f:Form) (e:Ev):List Int:=f.MO.foldl (λm o=>m.set o (e.ints.getD o 0)) f.ev.ints
def Form.write (f:Form) (e:Ev):List UInt8:=if(f.MP e).all written&&decide (f.made e=e.ints) then f.word++Vs (f.MP e)++[10] else[]
end Go.Proofs.YtdanidpleofjgaaGreat
namespace Go.Proofs.YtdanidpleofjgaaGreat
open Go Go.RowKit
abbrev AV.u8 (n:Int):AV:=.val (.int .u8 n)
abbrev AV.byte (x:UInt8):AV:=.u8 (x.toNat:Int)
section
variable {P:Program} {H:List Own} {Γ:Env} {g:Bool} {d:Option Tmp} {y z z':Operand} {ty T T' E:TypeId} {p:String} {af:Array Edge} {gd:Option (Nat×Bool)} {n m:Nat} {zv:Value} {k k':List UInt8}
def Gu {m:Int} (hT:(P.underlying T).isSome=true) (Vt:P.underlying T'=some (.int .i64)) (hy:At Γ g y (.u8 m)) (hb:g=true->0<=m/\m<=255):Ok P H Γ g ⟨d,.convert T T' y,ty,p,af,gd⟩ (.int m):=
 iw λI a w he hg=>by
  have h1:a.eval y=.int .u8 m:=hy I a he hg;obtain⟨b0,b1⟩:=hb hg;have h3:IntKind.i64.wrap m=m:=IntWalk.i64_in _ ⟨by omega,by omega⟩;simp only[execOp,h1];simp[go_sem,hT,Vt,h3]
end
section
variable {P:Program} {c:Ctx} {I:Im} {H:List Own} {Γ:Env} {a:Act} {w:World} {Q:Exit->Act->World->Prop}
def oO (T:TypeId) (l:List AV):Value->Own
 |.pointer (some ⟨b,0,none⟩)=>Own.box b T l
 |_=>Own.gone
def AV.v8:AV:=⟨λ_ v=>∃b,v=.pointer (some ⟨b,0,none⟩),λ_ _ _ _ h=>h⟩
def gv (P:Program) (c:Ctx) (H:List Own) (ops:Array Oper) (Q:Exit->Act->World->Prop) (tail:List Oper) (M:Act->List Own) (k:Nat) (Γ:Env) (os:List Oper):Prop:=
 ∃xs,yj P H ops Γ os xs/\∀I' a' w',St c I' (H++(M a'++made (λ_=>true) a' k os xs)) (rD Γ os (xs.map (·.1))) a' w'->wpList P ops Q tail a' w'
def gv.nil {ops:Array Oper} {tail:List Oper} {M:Act->List Own} {k:Nat} (h:∀I' a' w',St c I' (H++M a') Γ a' w'->wpList P ops Q tail a' w'):gv P c H ops Q tail M k Γ []:=
 ⟨[],trivial,λI' a' w' U=>h I' a' w' (by simpa[made,rD] using U)⟩
def gv.cons {ops:Array Oper} {tail:List Oper} {M:Act->List Own} {k:Nat} {o:Oper} {os:List Oper} {x:AV} (h:py P H ops (Γ.only (o.looksAt ops)) o x) (r:gv P c H ops Q tail M (k+1) ((o.dst.getD 0,x)::Γ) os):gv P c H ops Q tail M k Γ (o::os):=
 let⟨xs,h1,h2⟩:=r
 ⟨(x,none)::xs,⟨h.r,h1⟩,λI' a' w' U=>h2 I' a' w' (by simpa[made,rD] using U)⟩
def gv.alloc {ops:Array Oper} {tail:List Oper} {M:Act->List Own} {k d:Nat} {os:List Oper} {T ty:TypeId} {p:String} {af:Array Edge} {ag:Bool} {n m:Nat} {zv:Value} {l:List AV} (hT:Ty P T ag n m zv) (hz:∀I,bx I l zv.cells.toList)
 (r:gv P c H ops Q tail (λa=>M a++[oO T l (a.tmps.getD d undef)]) (k+1) ((d,AV.v8)::Γ) os):gv P c H ops Q tail M k Γ (⟨some d,.alloc T,ty,p,af,none⟩::os):=by
 obtain⟨xs,h1,h2⟩:=r;refine⟨(AV.v8,some (oO T l))::xs,⟨?_,h1⟩,λI' a' w' U=>h2 I' a' w' (by simpa[made,rD] using U)⟩;intro base I a w K Q he hm hw kk;rw[if_pos (by simp[Region.wanted])];unfold Oper.wp;have Af:(zeroValue T).run P w=.ok zv w:=hT.zero;simp only[execOp,Instr.alloc,Sem.run_bind,Af,Result.andThen_ok,Ad,Sem.run_pure,Oper.upon_value];refine kk _ I _ ⟨_,rfl⟩ (Step.alloc hm _) λf hf=>?_;cases hf;refine⟨⟨_,uj w _,hz I⟩,λb hb=>?_⟩;cases hb;exact⟨Nat.le_refl _,hm.none (Nat.le_refl _),by simp⟩
def St.MQ {id:Nat} (pre tail:List Oper) (U:St c I H Γ a w) (hm:P.follows .mixedOrders=true) (fX:nc pre tail=true) (hd:(pre.all λo=>Nat.blt (o.dst.getD 0) c.n)=true)
 (run:gv P c H (pre++tail).toArray Q tail (λ_=>[]) 0 Γ pre):(Code.region id (pre++tail).toArray true).wp P Q a w:=by
 obtain⟨xs,run,k⟩:=run;refine wp_region_any hm ?_;obtain⟨hlen,jd⟩:=yj.at (Γ0:=Γ) pre xs 0 [] (by simpa[eZ] using run) (λe he=>by simp at he);have hf:∀i:Nat,(Array.replicate (pre++tail).length false).getD i false=false:=λi=>by
  rw[Array.getD_eq_getD_getElem?,Array.getElem?_replicate];split<;>rfl
 have CX:∀(a:Act),made (λi=>(Array.replicate (pre++tail).length false).getD i false) a 0 pre xs=[]:=λa=>by
  rw[uw (S':=λ_=>false) λi o x f _ _=>hf _];have key:∀(k:Nat) (os:List Oper) (xs:List (AV×Mk)),made (λ_=>false) a k os xs=[]:=by
   intro k os;induction os generalizing k with
   |nil=>intro xs;unfold made;rfl
   |cons o os ih=>
    intro xs
    cases xs with
    |nil=>simp[made]
    |cons x xs=>
     obtain⟨x,r⟩:=x
     cases r with
     |none=>simp only[made];exact ih _ _
     |some f=>simp only[made,cond_false];exact ih _ _
  exact key _ _ _
 have:=Vo (P:=P) (c:=c) (H:=H) (Γ:=Γ) (Q:=Q) fX hlen (by simpa using hd) (λi o x ho hx=>by simpa using jd i o x ho hx) (λI' a' w' h=>by
  rw[<-Mi] at h;exact k I' a' w' (by simpa using h)) (pre++tail).length (Array.replicate (pre++tail).length false) I a {w with drawn:=w.drawn+1} bt
  (by simpa using List.length_filter_le _ (List.range (pre++tail).length)) (λi hi h=>by rw[hf] at h;cases h) (λi o ho hi=>by rw[hf] at hi;cases hi) (by
    have he:(eY 0 pre (xs.map (·.1))).reverse.filter (λe=>(Array.replicate (pre++tail).length false).getD e.1 false)=[]:=by
     rw[List.filter_eq_nil_iff];intro e _;rw[hf];simp
    rw[he,CX,List.append_nil];exact⟨⟨U.step.le,U.step.gL,U.step.dp,U.step.below.drew⟩,⟨λo ho=>⟨o.hO I I w _ (Im.le_refl I) (λ_ _=>rfl) (U.own.all o ho).1,(U.own.all o ho).2⟩,U.own.apart⟩,U.env,U.size,U.defers⟩)
 simpa using this
def St.MR {id:Nat} {l:List Oper} (n:Nat) (U:St c I H Γ a w) (hm:P.follows .mixedOrders=true) (fX:nc (l.take n) (l.drop n)=true) (hd:((l.take n).all λo=>Nat.blt (o.dst.getD 0) c.n)=true)
 (run:gv P c H l.toArray Q (l.drop n) (λ_=>[]) 0 Γ (l.take n)):(Code.region id l.toArray true).wp P Q a w:=by
 have e:l.take n++l.drop n=l:=List.take_append_drop n l;have:=U.MQ (id:=id) (Q:=Q) (l.take n) (l.drop n) hm fX hd (by rw[e];exact run);rwa[e] at this
def St.uz {d:Nat} {T:TypeId} {l:List AV} (U:St c I (H++([]++[oO T l (a.tmps.getD d undef)])) Γ a w) (h:Env.get d Γ=some AV.v8):∃b,St c I (H++[Own.box b T l]) ((d,.val (.pointer (some ⟨b,0,none⟩)))::Γ) a w:=by
 obtain⟨b,hb⟩:∃b,a.tmps.getD d undef=.pointer (some ⟨b,0,none⟩):=U.env d _ h;rw[hb] at U;refine⟨b,U.step,by simpa[oO] using U.own,λt x e=>?_,U.size,U.defers⟩;simp only[Env.get] at e;cases lG:Nat.beq d t with
 |true=>
  rw[lG] at e;simp only[cond_true] at e;cases e
  obtain rfl:d=t:=Nat.eq_of_beq_eq_true lG
  exact hb
 |false=>rw[lG] at e;exact U.env t x (by simpa using e)
def lV (P:Program) (c:Ctx) (H:List Own) (ops:Array Oper) (Q:Exit->Act->World->Prop) (tail:List Oper) (Γ:Env) (os:List Oper):Prop:=∀k,gv P c H ops Q tail (λ_=>[]) k Γ os
def lV.nil {ops:Array Oper} {tail:List Oper} (k:∀I' a' w',St c I' H Γ a' w'->wpList P ops Q tail a' w'):lV P c H ops Q tail Γ []:=λ_=>.nil λI a w U=>k I a w (by simpa using U)
def lV.cons {ops:Array Oper} {tail:List Oper} {o:Oper} {os:List Oper} {x:AV} (h:py P H ops (Γ.only (o.looksAt ops)) o x) (k:lV P c H ops Q tail ((o.dst.getD 0,x)::Γ) os):lV P c H ops Q tail Γ (o::os):=λn=>.cons h (k (n+1))
def St.Vu {id:Nat} {l:List Oper} (n:Nat) (U:St c I H Γ a w) (hm:P.follows .mixedOrders=true) (fX:nc (l.take n) (l.drop n)=true) (hd:((l.take n).all λo=>Nat.blt (o.dst.getD 0) c.n)=true)
 (run:lV P c H l.toArray Q (l.drop n) Γ (l.take n)):(Code.region id l.toArray true).wp P Q a w:=U.MR n hm fX hd (run 0)
def jD (P:Program) (c:Ctx) (H:List Own) (ops:Array Oper) (Q:Exit->Act->World->Prop) (Γ:Env) (os:List Oper):Prop:=lV P c H ops Q [] Γ os
def jD.nil {ops:Array Oper} (k:∀I' a' w',St c I' H Γ a' w'->Q .normal a' w'):jD P c H ops Q Γ []:=lV.nil λI a w h=>wpList_nil (k I a w h)
def jD.cons {ops:Array Oper} {o:Oper} {os:List Oper} {x:AV} (h:py P H ops (Γ.only (o.looksAt ops)) o x) (k:jD P c H ops Q ((o.dst.getD 0,x)::Γ) os):jD P c H ops Q Γ (o::os):=lV.cons h k
def St.Vv {id:Nat} {l:List Oper} (U:St c I H Γ a w) (hm:P.follows .mixedOrders=true) (fX:nc l []=true) (hd:(l.all λo=>Nat.blt (o.dst.getD 0) c.n)=true)
 (run:jD P c H l.toArray Q Γ l):(Code.region id l.toArray true).wp P Q a w:=by
 have:=U.MQ (id:=id) (Q:=Q) l [] hm fX hd (by rw[List.append_nil];exact run 0);rwa[List.append_nil] at this
end
def gE {f:FuncId} {l:List AV}:(AV.fn f l).One:=λ_ _ ⟨_,e,_⟩=>by rw[e];rfl
def Fn.MS {P:Program} {f:FuncId} {args:List AV} {res:AV} (h:Fn P f args res):lD P (AV.val (.func (.func f) #[] #[])) args res:=λI w v vs hm e ha=>
 ⟨f,#[],#[],e,h.1,by simpa using h.2 I w vs hm ha⟩
end Go.Proofs.YtdanidpleofjgaaGreat
