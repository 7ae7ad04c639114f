/- Part 3: rules of the proofs. -/
import Derived.Lib.ItoaNum
import Derived.Laws.BytesString
import Derived.Laws.DeepStrings4
import Derived.Lib.SlBytesRow
import Derived.Lib.Strings
import Derived.Lib.ItoaLen
import Derived.Test.YtldbakcpcfdlaaaGreatP02
set_option linter.all false
namespace Go.Proofs.YtldbakcpcfdlaaaGreat
open Go Go.RowKit
def bQ.perm {base:Nat->Prop} {I:Im} {w:World} {H H':List Own} (h:bQ base I w H) (hp:H.Perm H'):bQ base I w H':=
 ⟨λo ho=>h.all o (hp.mem_iff.2 ho),(hp.pairwise_iff λh=>h.symm).1 h.apart⟩
def bQ.left {base:Nat->Prop} {I:Im} {w:World} {H K:List Own} (h:bQ base I w (H++K)):bQ base I w H:=
 ⟨λo ho=>h.all o (List.mem_append_left _ ho),h.apart.sublist (List.sublist_append_left H K)⟩
abbrev Mk:=Option (Value->Own)
def A5 (P:Program) (H:List Own) (ops:Array Oper) (Γ:Env) (o:Oper) (x:AV) (r:Mk):Prop:=
 ∀(base:Nat->Prop) (I:Im) (a:Act) (w:World) (K:Act->World->Prop) (Q:Exit->Act->World->Prop),cW I a Γ->dR w I->bQ base I w H->
  (∀v I' w',x.h I' v->Step I w I' w'->(∀f,r=some f->(f v).ok I' w'/\∀b,(f v).eo b->w.heap.size<=b/\I' b=none/\b<w'.heap.size)->K (a.put o.dst v) w')->
  if Region.wanted o (yielded ops a.tmps) then o.wp P a w K Q else K (a.put o.dst undef) w
def nX.r {P:Program} {H:List Own} {ops:Array Oper} {Γ:Env} {o:Oper} {x:AV} (h:nX P H ops Γ o x):A5 P H ops Γ o x none:=
 λbase I a w K Q he hm hw k=>h base I a w K Q he hm hw λv I' w' hx U=>k v I' w' hx U λf e=>by cases e
def made (S:Nat->Bool) (a:Act):Nat->List Oper->List (AV×Mk)->List Own
 |k,o::os,(_,some f)::xs=>bif S k then f (a.tmps.getD (o.dst.getD 0) undef)::made S a (k+1) os xs else made S a (k+1) os xs
 |k,_::os,(_,none)::xs=>made S a (k+1) os xs
 |_,_,_=>[]
def Ef {S:Nat->Bool} {a a':Act}:∀{k:Nat} {os:List Oper} {xs:List (AV×Mk)},(∀(i:Nat) (o:Oper) (x:AV) (f:Value->Own),os[i]?=some o->xs[i]?=some (x,some f)->S (k+i)=true->a.tmps.getD (o.dst.getD 0) undef=a'.tmps.getD (o.dst.getD 0) undef)->made S a k os xs=made S a' k os xs
 |_,[],_,_=>by unfold made;rfl
 |_,_::_,[],_=>by simp[made]
 |k,o::os,(x,some f)::xs,h=>by
  have ih:=Ef (S:=S) (a:=a) (a':=a') (k:=k+1) (os:=os) (xs:=xs) λi o' x' f' h1 h2 h3=>h (i+1) o' x' f' (by simpa using h1) (by simpa using h2) (by rw[show k+(i+1)=k+1+i from by omega];exact h3);simp only[made];cases hS:S k
  .exact ih
  rw[h 0 o x f rfl rfl hS,ih]
 |k,o::os,(x,none)::xs,h=>by
  simp only[made];exact Ef λi o' x' f' h1 h2 h3=>h (i+1) o' x' f' (by simpa using h1) (by simpa using h2) (by rw[show k+(i+1)=k+1+i from by omega];exact h3)
def sM {S S':Nat->Bool} {a:Act}:∀{k:Nat} {os:List Oper} {xs:List (AV×Mk)},(∀(i:Nat) (o:Oper) (x:AV) (f:Value->Own),os[i]?=some o->xs[i]?=some (x,some f)->S (k+i)=S' (k+i))->made S a k os xs=made S' a k os xs
 |_,[],_,_=>by unfold made;rfl
 |_,_::_,[],_=>by simp[made]
 |k,o::os,(x,some f)::xs,h=>by
  simp only[made];rw[show S k=S' k from h 0 o x f rfl rfl,sM (S:=S) (S':=S') (k:=k+1) (os:=os) (xs:=xs) λi o' x' f' h1 h2=>by
   have:=h (i+1) o' x' f' (by simpa using h1) (by simpa using h2);rw[show k+1+i=k+(i+1) from by omega];exact this]
 |k,o::os,(x,none)::xs,h=>by
  simp only[made];exact sM λi o' x' f' h1 h2=>by
   have:=h (i+1) o' x' f' (by simpa using h1) (by simpa using h2);rw[show k+1+i=k+(i+1) from by omega];exact this
def Eg {S:Nat->Bool} {a:Act}:∀{k i:Nat} {os:List Oper} {xs:List (AV×Mk)} {o:Oper} {x:AV} {f:Value->Own},os[i]?=some o->xs[i]?=some (x,some f)->S (k+i)=false->
 (f (a.tmps.getD (o.dst.getD 0) undef)::made S a k os xs).Perm (made (λj=>if j=k+i then true else S j) a k os xs)
 |k,0,o'::os,(x',m)::xs,o,x,f,h1,h2,h3=>by
  simp at h1 h2;obtain⟨rfl,rfl⟩:=h2;subst h1;simp only[made];have A6:S k=false:=h3;rw[A6];simp only[Nat.add_zero,if_true,cond_true,cond_false];rw[sM (S:=S) (S':=λj=>if j=k then true else S j) λi o' x' f' _ _=>by rw[if_neg om]]
 |k,i+1,o'::os,(x',some f')::xs,o,x,f,h1,h2,h3=>by
  have ih:=Eg (S:=S) (a:=a) (k:=k+1) (i:=i) (os:=os) (xs:=xs) (o:=o) (x:=x) (f:=f) (by simpa using h1) (by simpa using h2) (by rw[show k+1+i=k+(i+1) from by omega];exact h3);rw[show k+1+i=k+(i+1) from by omega] at ih;simp only[made];rw[if_neg om];cases S k
  .exact ih
  exact(List.Perm.swap _ _ _).trans (ih.cons _)
 |k,i+1,o'::os,(x',none)::xs,o,x,f,h1,h2,h3=>by
  have ih:=Eg (S:=S) (a:=a) (k:=k+1) (i:=i) (os:=os) (xs:=xs) (o:=o) (x:=x) (f:=f) (by simpa using h1) (by simpa using h2) (by rw[show k+1+i=k+(i+1) from by omega];exact h3);rw[show k+1+i=k+(i+1) from by omega] at ih;simp only[made];exact ih
 |_,_,[],_,_,_,_,h1,_,_=>by simp at h1
 |_,_,_::_,[],_,_,_,_,h2,_=>by simp at h2
def vR (P:Program) (H:List Own) (ops:Array Oper):Env->List Oper->List (AV×Mk)->Prop
 |_,[],[]=>True
 |Γ,o::os,x::xs=>A5 P H ops (Γ.only (o.looksAt ops)) o x.1 x.2/\vR P H ops ((o.dst.getD 0,x.1)::Γ) os xs
 |_,_,_=>False
def vR.at {P:Program} {H:List Own} {ops:Array Oper} {Γ0:Env}:∀(os:List Oper) (xs:List (AV×Mk)) (k:Nat) (done:List nb),vR P H ops (eT done++Γ0) os xs->(∀e∈done,e.1<k)->
 os.length=xs.length/\∀i o x,os[i]?=some o->xs[i]?=some x->A5 P H ops ((eT (((eS k os (xs.map (·.1))).reverse++done).filter λe=>decide (e.1<k+i))++Γ0).only (o.looksAt ops)) o x.1 x.2
 |[],[],_,_,_,_=>⟨rfl,λi o x h=>by simp at h⟩
 |o::os,x::xs,k,done,h,hd=>by
  obtain⟨h1,h2⟩:=h;have ih:=vR.at os xs (k+1) ((k,o.dst.getD 0,x.1)::done) h2 (λe he=>by
   rcases List.mem_cons.1 he with rfl|he
   .simp
   have:=hd e he;omega)
  refine⟨by simp[ih.1],λi o' x' ho hx=>?_⟩;have yn:(eS k (o::os) ((x::xs).map (·.1))).reverse++done=(eS (k+1) os (xs.map (·.1))).reverse++((k,o.dst.getD 0,x.1)::done):=by simp[eS]
  rw[yn];cases i with
  |zero=>
   simp at ho hx;subst ho hx
   have hf:((eS (k+1) os (xs.map (·.1))).reverse++((k,o.dst.getD 0,x.1)::done)).filter (λe=>decide (e.1<k+0))=done:=by
    rw[List.filter_append];have e1:(eS (k+1) os (xs.map (·.1))).reverse.filter (λe=>decide (e.1<k+0))=[]:=by
     rw[List.filter_eq_nil_iff];intro e he;have:=(AR (k+1) os (xs.map (·.1))).2 e (List.mem_reverse.1 he);simp;omega
    rw[e1,List.filter_cons];simp only[Nat.add_zero,Nat.lt_irrefl,decide_false,Bool.false_eq_true,if_false,List.nil_append];rw[List.filter_eq_self];intro e he;simpa using hd e he
   rw[hf];exact h1
  |succ i=>
   have:=ih.2 i o' x' (by simpa using ho) (by simpa using hx)
   rw[show k+(i+1)=k+1+i from by omega]
   exact this
 |[],_::_,_,_,h,_=>h.elim
 |_::_,[],_,_,h,_=>h.elim
def mG (pre tail:List Oper):Bool:=
 let l:=pre++tail
 let C:=iM [] l
 let p:=pre.length
 (l.zipIdx.all λ(o,i)=>(o.after.toList.all λe=>!Region.binds .any e||Nat.blt e.on i))&&
 (pre.zipIdx.all λ(o,i)=>o.dst.isSome&&
   ((slotsOf l.toArray o).all λt=>pre.zipIdx.all λ(o',j)=>Nat.beq i j||!(o'.dst==some t)||(if j<i then(C.getD i []).contains j else(C.getD j []).contains i))&&
   (pre.zipIdx.all λ(o',j)=>Nat.beq i j||!(o'.dst==o.dst)))&&
 (List.range tail.length).all λi=>(List.range (p+i)).all λj=>(C.getD (p+i) []).contains j
def Eh {pre tail:List Oper} (h:mG pre tail=true) {i:Nat} {o:Oper} (ho:(pre++tail)[i]?=some o):∀e∈o.after.toList,Region.binds .any e=true->e.on<i:=λe he hb=>by
 simp only[mG,List.all_eq_true,Bool.and_eq_true] at h;have hm:(o,i)∈(pre++tail).zipIdx:=by rw[List.mem_zipIdx_iff_getElem?];exact ho
 have:=h.1.1 _ hm e he;rw[hb] at this;simpa using this
def Ei {pre tail:List Oper} (h:mG pre tail=true) {i:Nat} {o:Oper} (ho:pre[i]?=some o):
 (∃d,o.dst=some d)/\(∀t∈slotsOf (pre++tail).toArray o,∀j o',pre[j]?=some o'->i≠j->o'.dst=some t->if j<i then j∈(iM [] (pre++tail)).getD i [] else i∈(iM [] (pre++tail)).getD j [])/\
 ∀j o',pre[j]?=some o'->i≠j->o'.dst≠o.dst:=by
 simp only[mG,List.all_eq_true,Bool.and_eq_true] at h;have hm:(o,i)∈pre.zipIdx:=by rw[List.mem_zipIdx_iff_getElem?];exact ho
 obtain⟨⟨h1,h3⟩,h4⟩:=h.1.2 _ hm;have hb:∀j,i≠j->Nat.beq i j=false:=λj bH=>by
  cases hb:Nat.beq i j with
  |false=>rfl
  |true=>exact absurd (Nat.eq_of_beq_eq_true hb) bH
 refine⟨Option.isSome_iff_exists.1 h1,λt ht j o' j6 bH hd=>?_,λj o' j6 bH hd=>?_⟩
 .have jt:(o',j)∈pre.zipIdx:=by rw[List.mem_zipIdx_iff_getElem?];exact j6
  have:=h3 t ht _ jt;simp only[hb j bH,hd,Bool.false_or] at this;have h5:(!(some t==some t))=false:=by simp
  rw[h5,Bool.false_or] at this;split
  .rename_i bW;rw[if_pos bW] at this;simpa using this
  rename_i bW;rw[if_neg bW] at this;simpa using this
 have jt:(o',j)∈pre.zipIdx:=by rw[List.mem_zipIdx_iff_getElem?];exact j6
 have:=h4 _ jt;simp only[hb j bH,hd,Bool.false_or] at this;simp at this
def Ej {pre tail:List Oper} (h:mG pre tail=true) {i j:Nat} (hi:pre.length<=i) (iD:i<(pre++tail).length) (hj:j<i):j∈(iM [] (pre++tail)).getD i []:=by
 simp only[mG,List.all_eq_true,Bool.and_eq_true] at h;have:=h.2 (i-pre.length) (by simp at iD⊢;omega) j ff;rw[show pre.length+(i-pre.length)=i from by omega] at this;simpa using this
section
variable {P:Program} {c:Ctx} {I:Im} {H:List Own} {Γ:Env} {a:Act} {w:World} {Q:Exit->Act->World->Prop}
def vT {listed:Array Bool} {i:Nat} (h:i<listed.size):listed.getD i true=listed.getD i false:=by simp[h]
def Ek {pre tail:List Oper} {listed:Array Bool} (cJ:listed.size=(pre++tail).length)
 (dV:∀(i:Nat) (o:Oper),(pre++tail)[i]?=some o->listed.getD i false=true->∀e∈o.after.toList,Region.binds .any e=true->listed.getD e.on false=true) {i:Nat} {o:Oper} (ho:(pre++tail)[i]?=some o)
 (h3:∀e∈o.after.toList,Region.binds .any e=true->listed.getD e.on false=true):∀j,j≠i->j∈(iM [] (pre++tail)).getD i []->listed.getD j false=true:=λj yz hj=>by
 have bW:i<(pre++tail).length:=(List.getElem?_eq_some_iff.1 ho).1;have iP:∀j,(listed.setIfInBounds i true).getD j false=if j=i then true else listed.getD j false:=λj=>AS om false
 have Q9:=AQ (S:=λj=>(listed.setIfInBounds i true).getD j false) (pre++tail) [] (λi k hk=>by simp at hk) (λi' o' j6 o3 e he hb=>by
  have iD:(listed.setIfInBounds i true).getD i' false=true:=by simpa using o3
  show(listed.setIfInBounds i true).getD e.on false=true;rw[iP] at iD⊢;split
  .rfl
  split at iD
  .rename_i yA;subst yA;rw[ho] at j6;cases j6;exact h3 e he hb
  exact dV i' o' j6 iD e he hb)
 have h':=Q9 i j hj (by show(listed.setIfInBounds i true).getD i false=true;rw[iP];simp);have Ra:(listed.setIfInBounds i true).getD j false=true:=h';rwa[iP,if_neg yz] at Ra
def A7 {pre tail:List Oper} (hE:∀{i:Nat} {o:Oper},(pre++tail)[i]?=some o->∀e∈o.after.toList,Region.binds .any e=true->e.on<i)
 (hT:∀{i j:Nat},pre.length<=i->i<(pre++tail).length->j<i->j∈(iM [] (pre++tail)).getD i []):∀(m j:Nat) (listed:Array Bool) (fuel:Nat) (a:Act) (w:World),(pre++tail).length-j=m->pre.length<=j->j<=(pre++tail).length->m<=fuel->listed.size=(pre++tail).length->
 (∀i,i<(pre++tail).length->(listed.getD i false=true↔i<j))->wpList P (pre++tail).toArray Q ((pre++tail).drop j) a w->wpAny P .any (pre++tail).toArray Q fuel listed a w:=by
 intro m;induction m with
 |zero=>
  intro j listed fuel a w hm hp hj hf cJ hl h
  have El:j=(pre++tail).length:=by omega
  have nk:(pre++tail).drop j=[]:=by rw[El];simp
  rw[nk] at h
  have JE:Region.ready .any (pre++tail).toArray listed=[]:=by
   rw[List.eq_nil_iff_forall_not_mem];intro i hi;obtain⟨h1,o,h2,_⟩:=mem_ready.1 hi;have bW:i<(pre++tail).length:=by have:=(Array.getElem?_eq_some_iff.1 h2).1;simpa using this
   have h4:=(hl i bW).2 om;have h5:listed.getD i true=listed.getD i false:=vT om;rw[h5,h4] at h1;cases h1
  cases fuel with
  |zero=>exact⟨JE,h⟩
  |succ fuel=>exact⟨λ_=>h,λi hi=>by rw[JE] at hi;cases hi⟩
 |succ m ih=>
  intro j listed fuel a w hm hp hj hf cJ hl h
  have kq:j<(pre++tail).length:=by omega
  cases fuel with
  |zero=>omega
  |succ fuel=>
   have dV:∀(i:Nat) (o:Oper),(pre++tail)[i]?=some o->listed.getD i false=true->∀e∈o.after.toList,Region.binds .any e=true->listed.getD e.on false=true:=λi o ho hi e he hb=>by
    have bW:i<(pre++tail).length:=(List.getElem?_eq_some_iff.1 ho).1;have h1:=(hl i bW).1 hi;have h2:=hE ho e he hb;exact(hl e.on om).2 om
   have hd:∀i,i<(pre++tail).length->listed.getD i true=listed.getD i false:=λi hi=>vT om
   have Rb:∀i∈Region.ready .any (pre++tail).toArray listed,i=j:=λi hi=>by
    obtain⟨h1,o,h2,h3⟩:=mem_ready.1 hi;have bW:i<(pre++tail).length:=by have:=(Array.getElem?_eq_some_iff.1 h2).1;simpa using this
    have ho:(pre++tail)[i]?=some o:=by simpa using h2
    have vU:¬i<j:=λh'=>by rw[hd i bW,(hl i bW).2 h'] at h1;cases h1
    by_cases j3:i=j
    .exact j3
    have hb:=Ek cJ dV ho (λe he hb=>h3 e (by simpa using he) hb) j (λe=>j3 e.symm) (hT om bW om);have:=(hl j kq).1 hb;omega
   refine⟨λhr=>?_,λi hi=>?_⟩
   .exfalso
    have:j∈Region.ready .any (pre++tail).toArray listed:=by
     refine mem_ready.2 ⟨?_,(pre++tail)[j],by simp[kq],λe he hb=>?_⟩
     .rw[hd j kq];cases hb:listed.getD j false with
      |false=>rfl
      |true=>have:=(hl j kq).1 hb;omega
     have h2:=hE (i:=j) (o:=(pre++tail)[j]) (by simp[kq]) e (by simpa using he) hb;exact(hl e.on om).2 h2
    rw[hr] at this;cases this
   obtain rfl:=Rb i hi
   have nk:(pre++tail).drop i=(pre++tail)[i]::(pre++tail).drop (i+1):=List.drop_eq_getElem_cons kq
   rw[nk] at h
   have JF:∀a w,wpList P (pre++tail).toArray Q ((pre++tail).drop (i+1)) a w->wpAny P .any (pre++tail).toArray Q fuel (listed.setIfInBounds i true) a w:=λa w h'=>
    ih (i+1) (listed.setIfInBounds i true) fuel a w om om om om (by simpa using cJ) (λk hk=>by
     rw[AS om];split
     .rename_i e;subst e;simp
     rename_i e;rw[hl k hk];omega) h'
   unfold wpOp
   have hg:(pre++tail).toArray[i]?=some (pre++tail)[i]:=by simp[kq]
   simp only[hg]
   unfold wpList at h
   by_cases hw:Region.wanted (pre++tail)[i] (yielded (pre++tail).toArray a.tmps)=true
   .rw[if_pos hw] at h⊢;exact h.imp (Oper.wp_mono JF) id
   rw[if_neg hw] at h⊢;exact JF _ _ h
def JG {pre tail:List Oper} {listed:Array Bool} {n:Nat} (hf:((List.range (pre++tail).length).filter λi=>!listed.getD i false).length<=n) (np:∀i,i<(pre++tail).length->listed.getD i false=true->i<pre.length) (aT:∀i,i<pre.length->listed.getD i false=true):(pre++tail).length-pre.length<=n:=by
 have h1:((List.range (pre++tail).length).filter λi=>!listed.getD i false)=(List.range (pre++tail).length).filter λi=>decide (pre.length<=i):=by
  apply List.filter_congr;intro i hi;have o3:i<(pre++tail).length:=by simpa using hi
  cases hb:listed.getD i false with
  |true=>have:=np i o3 hb;simp;omega
  |false=>
   have:¬i<pre.length:=λh=>by rw[aT i h] at hb;cases hb
   simp;omega
 rw[h1] at hf;have h2:((List.range (pre++tail).length).filter λi=>decide (pre.length<=i)).length=(pre++tail).length-pre.length:=by
  have:(List.range (pre++tail).length)=List.range pre.length++(List.range tail.length).map (pre.length+·):=by
   rw[List.length_append,List.range_add]
  rw[this,List.filter_append];have a1:(List.range pre.length).filter (λi=>decide (pre.length<=i))=[]:=by
   rw[List.filter_eq_nil_iff];intro i hi;simp at hi⊢;omega
  have a2:((List.range tail.length).map (pre.length+·)).filter (λi=>decide (pre.length<=i))=(List.range tail.length).map (pre.length+·):=by
   rw[List.filter_eq_self];intro i hi;simp at hi⊢;omega
  rw[a1,a2];simp
 omega
def Rc {pre tail:List Oper} {xs:List (AV×Mk)} (fB:mG pre tail=true) (hlen:pre.length=xs.length) (hd:∀o∈pre,Nat.blt (o.dst.getD 0) c.n=true)
 (run:∀i o x,pre[i]?=some o->xs[i]?=some x->A5 P H (pre++tail).toArray ((eT ((eS 0 pre (xs.map (·.1))).reverse.filter λe=>decide (e.1<i))++Γ).only (o.looksAt (pre++tail).toArray)) o x.1 x.2)
 (k:∀I' a' w',St c I' (H++made (λ_=>true) a' 0 pre xs) (eT (eS 0 pre (xs.map (·.1))).reverse++Γ) a' w'->wpList P (pre++tail).toArray Q tail a' w'):
 ∀(fuel:Nat) (listed:Array Bool) (I:Im) (a:Act) (w:World),listed.size=(pre++tail).length->((List.range (pre++tail).length).filter λi=>!listed.getD i false).length<=fuel->
  (∀i,i<(pre++tail).length->listed.getD i false=true->i<pre.length)->
  (∀(i:Nat) (o:Oper),(pre++tail)[i]?=some o->listed.getD i false=true->∀e∈o.after.toList,Region.binds .any e=true->listed.getD e.on false=true)->
  St c I (H++made (λi=>listed.getD i false) a 0 pre xs) (eT ((eS 0 pre (xs.map (·.1))).reverse.filter λe=>listed.getD e.1 false)++Γ) a w->wpAny P .any (pre++tail).toArray Q fuel listed a w:=by
 have hL:(eS 0 pre (xs.map (·.1))).reverse.Pairwise (λe f=>f.1<e.1):=by
  rw[List.pairwise_reverse];exact(AR 0 pre (xs.map (·.1))).1
 have p8:∀e∈(eS 0 pre (xs.map (·.1))).reverse,∃o',pre[e.1]?=some o'/\o'.dst=some e.2.1:=λe he=>by
  obtain⟨j,o',g1,_,g3,g4⟩:=Jd (List.mem_reverse.1 he);obtain⟨d',iF⟩:=(Ei fB g1).1;refine⟨o',by rw[g3,Nat.zero_add];exact g1,?_⟩;rw[g4,iF];rfl
 intro fuel;induction fuel with
 |zero=>
  intro listed I a w cJ hf np dV U
  have h0:∀i,i<(pre++tail).length->listed.getD i false=true:=λi hi=>by
   have:(List.range (pre++tail).length).filter (λi=>!listed.getD i false)=[]:=List.eq_nil_of_length_eq_zero om;rw[List.filter_eq_nil_iff] at this;simpa using this i (by simpa using hi)
  have A8:tail=[]:=by
   rcases tail with _|⟨t,ts⟩
   .rfl
   have:=np pre.length be (h0 pre.length be);omega
  have e1:(eS 0 pre (xs.map (·.1))).reverse.filter (λe=>listed.getD e.1 false)=(eS 0 pre (xs.map (·.1))).reverse:=by
   rw[List.filter_eq_self];intro e he;obtain⟨o',h1,_⟩:=p8 e he;have:=(List.getElem?_eq_some_iff.1 h1).1;exact h0 e.1 ff
  have e2:made (λi=>listed.getD i false) a 0 pre xs=made (λ_=>true) a 0 pre xs:=sM λi o x f h1 h2=>by
   have:=(List.getElem?_eq_some_iff.1 h1).1;rw[Nat.zero_add];exact h0 i ff
  rw[e1,e2] at U
  have hw:=k I a w U
  exact A7 (Eh fB) (Ej fB) 0 (pre++tail).length listed 0 a w om be om om cJ (λi hi=>⟨λ_=>hi,λ_=>h0 i hi⟩) (by subst A8;simpa using hw)
 |succ fuel ih=>
  intro listed I a w cJ hf np dV U
  by_cases aT:∀i,i<pre.length->listed.getD i false=true
  .have e1:(eS 0 pre (xs.map (·.1))).reverse.filter (λe=>listed.getD e.1 false)=(eS 0 pre (xs.map (·.1))).reverse:=by
    rw[List.filter_eq_self];intro e he;obtain⟨o',h1,_⟩:=p8 e he;exact aT e.1 (List.getElem?_eq_some_iff.1 h1).1
   have e2:made (λi=>listed.getD i false) a 0 pre xs=made (λ_=>true) a 0 pre xs:=sM λi o x f h1 h2=>by
    rw[Nat.zero_add];exact aT i (List.getElem?_eq_some_iff.1 h1).1
   rw[e1,e2] at U
   have Rd:=JG hf np aT
   refine A7 (Eh fB) (Ej fB) _ pre.length listed (fuel+1) a w rfl om be Rd cJ (λi hi=>⟨np i hi,aT i⟩) ?_
   rw[List.drop_left]
   exact k I a w U
  have yB:∃i0,i0<pre.length/\listed.getD i0 false=false:=by
   refine Classical.byContradiction λhn=>aT λi hi=>?_;cases hb:listed.getD i false with
   |true=>rfl
   |false=>exact absurd ⟨i,hi,hb⟩ hn
  obtain⟨i0,yC,rb⟩:=yB
  refine⟨λhr=>?_,λi hi=>?_⟩
  .exfalso
   have:∀i,i<(pre++tail).length->listed.getD i false=true:=λi=>by
    induction i using Nat.strongRecOn with
    |_ i yk=>
     intro hi
     cases hl:listed.getD i false with
     |true=>rfl
     |false=>
      have sN:i∈Region.ready .any (pre++tail).toArray listed:=by
       refine mem_ready.2 ⟨by rw[vT om];exact hl,(pre++tail)[i],by simp[hi],λe he hb=>?_⟩;have bW:=Eh fB (i:=i) (o:=(pre++tail)[i]) (by simp[hi]) e (by simpa using he) hb;exact yk e.on bW om
      rw[hr] at sN;cases sN
   rw[this i0 ff] at rb;cases rb
  obtain⟨h1,o,h2,h3⟩:=mem_ready.1 hi
  have bW:i<(pre++tail).length:=by have:=(Array.getElem?_eq_some_iff.1 h2).1;simpa using this
  have jM:(pre++tail)[i]?=some o:=by simpa using h2
  rw[vT om] at h1
  have aG:=Ek cJ dV jM (λe he hb=>h3 e (by simpa using he) hb)
  have JH:i<pre.length:=by
   refine Classical.byContradiction λhn=>?_;have:=aG i0 om (Ej fB om bW om);rw[this] at rb;cases rb
  have ho:pre[i]?=some o:=by rw[List.getElem?_append_left JH] at jM;exact jM
  obtain⟨⟨d,uj⟩,A9,JI⟩:=Ei fB ho
  have Em:=AQ (S:=λj=>listed.getD j false) (pre++tail) [] (λi k hk=>by simp at hk) (λi o ho hi e he hb=>dV i o ho (by simpa using hi) e he hb)
  have uk:∀j,i∈(iM [] (pre++tail)).getD j []->listed.getD j false=false:=λj hj=>by
   cases hb:listed.getD j false with
   |false=>rfl
   |true=>rw[Em j i hj hb] at h1;cases h1
  have iP:∀j,(listed.setIfInBounds i true).getD j false=if j=i then true else listed.getD j false:=λj=>AS om false
  have En:∀(i':Nat) (o':Oper),(pre++tail)[i']?=some o'->(listed.setIfInBounds i true).getD i' false=true->∀e∈o'.after.toList,Region.binds .any e=true->(listed.setIfInBounds i true).getD e.on false=true:=λi' o' j6 iD e he hb=>by
   rw[iP] at iD⊢;split
   .rfl
   split at iD
   .rename_i yA;subst yA;rw[jM] at j6;cases j6;exact h3 e (by simpa using he) hb
   exact dV i' o' j6 iD e he hb
  have mE:i<xs.length:=by omega
  have l3:xs[i]?=some xs[i]:=by simp[mE]
  generalize xs[i]=x at l3
  obtain⟨x,r⟩:=x
  have Re:(xs.map (·.1))[i]?=some x:=by simp[l3]
  have iN:=run i o (x,r) ho l3
  have Eo:cW I a ((eT ((eS 0 pre (xs.map (·.1))).reverse.filter λe=>decide (e.1<i))++Γ).only (o.looksAt (pre++tail).toArray)):=λt y e=>by
   obtain⟨g1,g2⟩:=Env.DR e;have ht:t∈slotsOf (pre++tail).toArray o:=by
    unfold slotsOf;rw[List.mem_append];exact .inr (by simpa using g2)
   rw[ym (q:=λe=>listed.getD e.1 false) _ (λe he o4=>?_)] at g1
   .exact U.env t y g1
   obtain⟨o',k1,k2⟩:=p8 e he;by_cases um:e.1=i
   .rw[um,h1];simp
   have:=A9 t ht e.1 o' k1 (λh=>um h.symm) (by rw[k2,o4]);split at this
   .rename_i nq;rw[aG e.1 um this];simpa using nq
   rename_i nq;rw[uk e.1 this];simpa using nq
  have Ep:((List.range (pre++tail).length).filter λj=>!(listed.setIfInBounds i true).getD j false).length<=fuel:=by
   have:=filter_lt (l:=List.range (pre++tail).length) (p:=λj=>!listed.getD j false) (q:=λj=>!(listed.setIfInBounds i true).getD j false) (i:=i) (by simpa using bW) (by simp only[h1];rfl) (by simp only[iP];simp) (λj hj=>by
    simp only[iP] at hj;split at hj
    .cases hj
    exact hj)
   omega
  have Er:∀j,j<(pre++tail).length->(listed.setIfInBounds i true).getD j false=true->j<pre.length:=λj hj hb=>by
   rw[iP] at hb;split at hb
   .rename_i e;subst e;exact JH
   exact np j hj hb
  have sL:(i,d,x)∈(eS 0 pre (xs.map (·.1))).reverse:=by
   rw[List.mem_reverse];have:=QG (k:=0) ho Re;rwa[uj,Nat.zero_add] at this
  unfold wpOp
  simp only[h2]
  have mH:=iN c.own I a w (wpAny P .any (pre++tail).toArray Q fuel (listed.setIfInBounds i true)) Q Eo U.step.c9 U.own.left (λv I' w' hv st Rf=>by
   refine ih (listed.setIfInBounds i true) I' _ w' (by simpa using cJ) Ep Er En ?_;rw[uj];have qc:d<c.n:=by
    have:=hd o (List.mem_of_getElem? ho);rw[uj] at this;simpa using this
   have n2:=U.put (d:=d) (x:=x) (v:=v) qc hv st;have p5:made (λi=>listed.getD i false) a 0 pre xs=made (λi=>listed.getD i false) (a.put (some d) v) 0 pre xs:=Ef λj o' x' f' g1 g2 g3=>by
    have yz:j≠i:=λe=>by subst e;rw[Nat.zero_add,h1] at g3;cases g3
    have bH:=JI j o' g1 (λe=>yz e.symm);obtain⟨d',iF⟩:=(Ei fB g1).1;have Ba:d≠d':=λe=>bH (by rw[iF,uj,e]);rw[iF];simp[Act.put,Ba]
   have eG:bQ c.own I' w' (H++made (λj=>(listed.setIfInBounds i true).getD j false) (a.put (some d) v) 0 pre xs):=by
    have h6:=n2.own;rw[p5] at h6;cases r with
    |none=>
     have e3:made (λj=>(listed.setIfInBounds i true).getD j false) (a.put (some d) v) 0 pre xs=made (λi=>listed.getD i false) (a.put (some d) v) 0 pre xs:=sM λj o' x' f' g1 g2=>by
      have yz:j≠i:=λe=>by subst e;rw[l3] at g2;cases g2
      rw[Nat.zero_add,iP,if_neg yz]
     rw[e3];exact h6
    |some f=>
     obtain⟨aj,jJ⟩:=Rf f rfl
     have D7:(a.put (some d) v).tmps.getD d undef=v:=by simp[Act.put,U.size,qc]
     have hp:=Eg (S:=λi=>listed.getD i false) (a:=a.put (some d) v) (k:=0) ho l3 (by rw[Nat.zero_add];exact h1)
     rw[uj] at hp
     simp only[Option.getD_some,D7] at hp
     have e4:made (λj=>if j=0+i then true else listed.getD j false) (a.put (some d) v) 0 pre xs=made (λj=>(listed.setIfInBounds i true).getD j false) (a.put (some d) v) 0 pre xs:=sM λj o' x' f' g1 g2=>by
      rw[iP];simp
     rw[e4] at hp
     have h7:bQ c.own I' w' (f v::(H++made (λi=>listed.getD i false) (a.put (some d) v) 0 pre xs)):=by
      refine⟨λo ho=>?_,?_⟩
      .rcases List.mem_cons.1 ho with rfl|ho
       .exact⟨aj,λb e=>by
         obtain⟨q1,q2,q3⟩:=jJ b e;exact⟨.inl (Nat.le_trans U.step.below.size q1),q2,q3⟩⟩
       exact h6.all o ho
      refine List.pairwise_cons.2 ⟨λy hy b e e'=>?_,h6.apart⟩;rw[<-p5] at hy;have:=((U.own.all y hy).2 b e').2.2;have:=(jJ b e).1;omega
     exact h7.perm ((List.perm_middle.symm).trans (hp.append_left H))
   refine⟨n2.step,eG,?_,n2.size,n2.defers⟩;intro t y e;refine n2.env t y ?_;by_cases rf:t=d
   .subst rf;rw[DS (i:=i) (x:=x) _ hL sL (by simp only[iP];simp) (λe he hp o4=>?_)] at e
    .rw[<-e];simp[Env.get]
    obtain⟨o',k1,k2⟩:=p8 e he;by_cases hle:e.1<=i
    .exact hle
    have bH:e.1≠i:=by omega
    exact absurd (by rw[k2,o4,uj]) (JI e.1 o' k1 (λh=>bH h.symm))
   rw[ym (q:=λe=>listed.getD e.1 false) _ (λe he o4=>?_)] at e
   .have hb:Nat.beq d t=false:=by
     cases hb:Nat.beq d t with
     |false=>rfl
     |true=>exact absurd (Nat.eq_of_beq_eq_true hb).symm rf
    simp only[Env.get,hb,cond_false];exact e
   obtain⟨o',k1,k2⟩:=p8 e he;have bH:e.1≠i:=λh=>by
    rw[h,ho] at k1;cases k1;rw[uj] at k2;cases k2;exact rf o4.symm
   simp only[iP,if_neg bH])
  by_cases hw:Region.wanted o (yielded (pre++tail).toArray a.tmps)=true
  .rw[if_pos hw] at mH⊢;exact .inl mH
  rw[if_neg hw] at mH⊢;exact mH
end
structure cG where
 time:Int
 site:Int
deriving DecidableEq,Inhabited
structure ao where
 key:Int
 aw:cG
deriving DecidableEq,Inhabited
structure aJ where
 key:Int
 aw:cG
 val:Int
 aB:Int
 call:Int
 aK:List ao
deriving DecidableEq,Inhabited
structure az where
 kind:Int
 bj:Int
 to:Int
 call:Int
 key:Int
 aw:cG
 val:Int
 yes:Bool
 aK:List ao
 slot:Int
 bX:Int
 ar:List aJ
 waits:List aJ
 aE:List ao
deriving DecidableEq,Inhabited
structure ct where
 bX:Int
 fg:Int
deriving DecidableEq,Inhabited
structure Server where
 site:Int
 up:Bool
 aQ:List ct
 ar:List aJ
 waits:List aJ
 aE:List ao
 bq:List ao
deriving DecidableEq,Inhabited
structure Answer where
 key:Int
 yes:Bool
 bl:aJ
deriving DecidableEq,Inhabited
structure Call where
 aB:Int
 num:Int
 kind:Int
 keys:List Int
 val:Int
 ctx:List ao
 bw:Int
 end_:Int
 over:Bool
 aw:cG
 au:List Answer
 aO:List ao
deriving DecidableEq,Inhabited
structure aM where
 time:Int
 aF:List Server
 aC:List az
 calls:List Call
 seen:List (List ao)
deriving DecidableEq,Inhabited
structure Ev where
 kind:Int
 at_:Int
 aB:Int
 word:Int
 iB:Int
 slot:Int
 call:Int
 a:Int
 b:Int
 c:Int
 val:Int
deriving DecidableEq,Inhabited
def cG.cells (s:cG):List AV:=[.int s.time,.int s.site]
def ao.cells (d:ao):List AV:=[.int d.key,.int d.aw.time,.int d.aw.site]
def bm (l:List ao):AV:=.rows 3 (l.map ao.cells)
def aJ.cells (v:aJ):List AV:=[.int v.key,.int v.aw.time,.int v.aw.site,.int v.val,.int v.aB,.int v.call,bm v.aK]
def cm (l:List aJ):AV:=.rows 7 (l.map aJ.cells)
def az.cells (w:az):List AV:=[.int w.kind,.int w.bj,.int w.to,.int w.call,.int w.key,.int w.aw.time,.int w.aw.site,.int w.val,.bool w.yes,bm w.aK,.int w.slot,.int w.bX,cm w.ar,cm w.waits,bm w.aE]
def dW (l:List az):AV:=.rows 15 (l.map az.cells)
def ct.cells (s:ct):List AV:=[.int s.bX,.int s.fg]
def l4 (l:List ct):AV:=.rows 2 (l.map ct.cells)
def Server.cells (s:Server):List AV:=[.int s.site,.bool s.up,l4 s.aQ,cm s.ar,cm s.waits,bm s.aE,bm s.bq]
def n3 (l:List Server):AV:=.rows 7 (l.map Server.cells)
def Answer.cells (a:Answer):List AV:=[.int a.key,.bool a.yes,.int a.bl.key,.int a.bl.aw.time,.int a.bl.aw.site,.int a.bl.val,.int a.bl.aB,.int a.bl.call,bm a.bl.aK]
def j7 (l:List Answer):AV:=.rows 9 (l.map Answer.cells)
def lF (k:Int):List AV:=[.int k]
def fM (l:List Int):AV:=.rows 1 (l.map lF)
def Call.cells (c:Call):List AV:=[.int c.aB,.int c.num,.int c.kind,fM c.keys,.int c.val,bm c.ctx,.int c.bw,.int c.end_,.bool c.over,.int c.aw.time,.int c.aw.site,j7 c.au,bm c.aO]
def jb (l:List Call):AV:=.rows 13 (l.map Call.cells)
def fh (l:List ao):List AV:=[bm l]
def lG (l:List (List ao)):AV:=.rows 1 (l.map fh)
def aM.cells (w:aM):List AV:=[.int w.time,n3 w.aF,dW w.aC,jb w.calls,lG w.seen]
def Ev.cells (e:Ev):List AV:=[.int e.kind,.int e.at_,.int e.aB,.int e.word,.int e.iB,.int e.slot,.int e.call,.int e.a,.int e.b,.int e.c,.int e.val]
def o5 (l:List Ev):AV:=.rows 11 (l.map Ev.cells)
def cG.av (s:cG):AV:=.agg s.cells
def ao.av (s:ao):AV:=.agg s.cells
def aJ.av (s:aJ):AV:=.agg s.cells
def az.av (s:az):AV:=.agg s.cells
def ct.av (s:ct):AV:=.agg s.cells
def Server.av (s:Server):AV:=.agg s.cells
def Answer.av (s:Answer):AV:=.agg s.cells
def Call.av (s:Call):AV:=.agg s.cells
def aM.av (s:aM):AV:=.agg s.cells
def Ev.av (s:Ev):AV:=.agg s.cells
end Go.Proofs.YtldbakcpcfdlaaaGreat
namespace Go.Proofs.YtldbakcpcfdlaaaGreat
def db (n:Int):Prop:=-9223372036854775808<=n/\n<=9223372036854775807
def aS (n low high:Int):Bool:=decide (low<=n)&&decide (n<=high)
def de (n:Int):Bool:=aS n 0 3
def dp (n:Int):Bool:=aS n 0 5
def fC (n:Int):Bool:=aS n 0 1
def dB (s:cG):Bool:=aS s.time 1 9999&&de s.site
def dy (a b:cG):Bool:=decide (a.time<b.time)||(a.time==b.time&&decide (a.site<b.site))
def eH (s:cG):Bool:=s.time==0&&s.site==0
def kr (s:cG):Bool:=eH s||dB s
def cv (n:Int):Int:=if de n then n/2 else-1
def ec (a b:ao):Bool:=decide (a.key<b.key)||(a.key==b.key&&dy a.aw b.aw)
def dL (last:Int):List ao->Bool
 |[]=>true
 |d::r=>aS d.key (last+1) 5&&dB d.aw&&dL d.key r
def ck (l:List ao):Bool:=dL (-1) l
def dh (n:Nat) (f:Nat->Bool):Bool:=decide (∀i,i<n->f i=true)
def fD {n k:Nat} {f:Nat->Bool} (h:∀i,i<k->f i=true) (hk:n<=k):dh n f=true:=by
 simp only[dh,decide_eq_true_eq];exactλi hi=>h i om
def fI {n k:Nat} {f:Nat->Bool} (hk:k<n) (h:f k=false):dh n f=false:=by
 simp only[dh,decide_eq_false_iff_not];exactλhh=>by rw[hh k hk] at h;cases h
def gf {k:Nat} {f:Nat->Bool} (h:∀i,i<k->f i=true) (hf:f k=true):∀i,i<k+1->f i=true:=λi hi=>by
 by_cases e:i=k
 .subst e;exact hf
 exact h i om
def jc {n:Nat} {f:Nat->Bool}:dh n f=true↔∀i,i<n->f i=true:=by simp[dh]
def yD {n m:Nat} {f g:Nat->Bool} (hn:n=m) (h:∀i,i<n->f i=g i):dh n f=dh m g:=by
 subst hn;rw[Bool.eq_iff_iff,jc,jc];exact⟨λk i hi=>by rw[<-h i hi];exact k i hi,λk i hi=>by rw[h i hi];exact k i hi⟩
def eU {α:Type} [Inhabited α] (cX:α->Bool) (less:α->α->Bool) (l:List α) (k:Nat):Bool:=cX (ae l k)&&(decide (k=0)||less (ae l (k-1)) (ae l k))
def sO {α:Type} [Inhabited α] (cX:α->Bool) (less:α->α->Bool) (l:List α) (k:Nat):
 (!cX (ae l k)||(decide (0<(k:Int))&&!less (ae l ((k:Int)-1).toNat) (ae l k)))=!eU cX less l k:=by
 rw[show((k:Int)-1).toNat=k-1 from by omega];unfold eU;rcases Nat.eq_zero_or_pos k with rfl|h
 .simp
 have h2:k≠0:=by omega
 have h3:0<k:=h;simp[h2,h3]
def JJ (t:Int) (l:List ao):Bool:=dh l.length λi=>decide ((ae l i).aw.time<t)
def fi (v:aJ):Bool:=dp v.key&&dB v.aw&&aS v.val 0 9999&&fC v.aB&&aS v.call 1 99&&ck v.aK&&JJ v.aw.time v.aK
def aJ.bD (v:aJ):ao:=⟨v.key,v.aw⟩
def gx (a b:aJ):Bool:=ec a.bD b.bD
def cD (l:List aJ):Bool:=decide (l.length<=80)&&dh l.length (eU fi gx l)
def kt (d:ao):Bool:=dp d.key&&dB d.aw
def fU (l:List ao):Bool:=decide (l.length<=80)&&dh l.length (eU kt ec l)
def l5 (n:Int):Bool:=de n||aS n 10 11
def bY (w:az):Bool:=
 aS w.kind 1 10&&l5 w.bj&&l5 w.to&&aS w.call 0 99&&dp w.key&&kr w.aw&&aS w.val 0 9999&&ck w.aK&&aS w.slot 0 2&&aS w.bX 0 9999&&
  cD w.ar&&cD w.waits&&fU w.aE
def gY (key:Int):Int:=if dp key then key*3/6 else-1
open Go
def dec (n:Int):List UInt8:=Lib.itoa n
def written (n:Int):Bool:=aS n 0 99999
def Ev.ints (e:Ev):List Int:=[e.kind,e.at_,e.aB,e.word,e.iB,e.slot,e.call,e.a,e.b,e.c,e.val]
def Ev.Fit (e:Ev):Prop:=∀x∈e.ints,db x
def Rg (ns:List Int):List UInt8:=(ns.map λn=>32::dec n).flatten
structure Form where
 word:List UInt8
 ev:Ev
 JK:List Nat
deriving DecidableEq,Inhabited
def Form.JL (f:Form) (e:Ev):List Int:=f.JK.map λo=>e.ints.getD o 0
def Form.made (f:Form) (e:Ev):List Int:=f.JK.foldl (λm o=>m.set o (e.ints.getD o 0)) f.ev.ints
def Form.write (f:Form) (e:Ev):List UInt8:=if(f.JL e).all written&&decide (f.made e=e.ints) then f.word++Rg (f.JL e)++[10] else[]
end Go.Proofs.YtldbakcpcfdlaaaGreat
namespace Go.Proofs.YtldbakcpcfdlaaaGreat
open Go Go.RowKit
abbrev AV.u8 (n:Int):AV:=.val (.int .u8 n)
section
variable {P:Program} {c:Ctx} {I:Im} {H:List Own} {Γ:Env} {a:Act} {w:World} {Q:Exit->Act->World->Prop}
def j8 (T:TypeId) (l:List AV):Value->Own
 |.pointer (some ⟨b,0,none⟩)=>Own.box b T l
 |_=>Own.gone
def AV.sP:AV:=⟨λ_ v=>∃b,v=.pointer (Option.some ⟨b,0,none⟩),λ_ _ _ _ h=>h⟩
def fO (P:Program) (c:Ctx) (H:List Own) (ops:Array Oper) (Q:Exit->Act->World->Prop) (tail:List Oper) (M:Act->List Own) (k:Nat) (Γ:Env) (os:List Oper):Prop:=
 ∃xs,vR P H ops Γ os xs/\∀I' a' w',St c I' (H++(M a'++made (λ_=>true) a' k os xs)) (p4 Γ os (xs.map (·.1))) a' w'->wpList P ops Q tail a' w'
def fO.nil {ops:Array Oper} {tail:List Oper} {M:Act->List Own} {k:Nat} (h:∀I' a' w',St c I' (H++M a') Γ a' w'->wpList P ops Q tail a' w'):fO P c H ops Q tail M k Γ []:=
 ⟨[],trivial,λI' a' w' U=>h I' a' w' (by simpa[made,p4] using U)⟩
def fO.cons {ops:Array Oper} {tail:List Oper} {M:Act->List Own} {k:Nat} {o:Oper} {os:List Oper} {x:AV} (h:nX P H ops (Γ.only (o.looksAt ops)) o x) (r:fO P c H ops Q tail M (k+1) ((o.dst.getD 0,x)::Γ) os):fO P c H ops Q tail M k Γ (o::os):=
 let⟨xs,h1,h2⟩:=r
 ⟨(x,none)::xs,⟨h.r,h1⟩,λI' a' w' U=>h2 I' a' w' (by simpa[made,p4] using U)⟩
def fO.alloc {ops:Array Oper} {tail:List Oper} {M:Act->List Own} {k d:Nat} {os:List Oper} {T ty:TypeId} {p:String} {af:Array Edge} {ag:Bool} {n m:Nat} {zv:Value} {l:List AV} (hT:Ty P T ag n m zv) (hz:∀I,bs I l zv.cells.toList)
 (r:fO P c H ops Q tail (λa=>M a++[j8 T l (a.tmps.getD d undef)]) (k+1) ((d,AV.sP)::Γ) os):fO P c H ops Q tail M k Γ (⟨some d,.alloc T,ty,p,af,none⟩::os):=by
 obtain⟨xs,h1,h2⟩:=r;refine⟨(AV.sP,some (j8 T l))::xs,⟨?_,h1⟩,λI' a' w' U=>h2 I' a' w' (by simpa[made,p4] using U)⟩;intro base I a w K Q he hm hw kk;rw[if_pos (by simp[Region.wanted])];unfold Oper.wp;have yq:(zeroValue T).run P w=.ok zv w:=hT.zero;simp only[execOp,Instr.alloc,Sem.run_bind,yq,Result.andThen_ok,yo,Sem.run_pure,Oper.upon_value];refine kk _ I _ ⟨_,rfl⟩ (Step.alloc hm _) λf hf=>?_;cases hf;refine⟨⟨_,sD w _,hz I⟩,λb hb=>?_⟩;cases hb;exact⟨Nat.le_refl _,hm.none (Nat.le_refl _),by simp⟩
def St.JM {id:Nat} (pre tail:List Oper) (U:St c I H Γ a w) (hm:P.follows .mixedOrders=true) (fB:mG pre tail=true) (hd:(pre.all λo=>Nat.blt (o.dst.getD 0) c.n)=true)
 (run:fO P c H (pre++tail).toArray Q tail (λ_=>[]) 0 Γ pre):(Code.region id (pre++tail).toArray true).wp P Q a w:=by
 obtain⟨xs,run,k⟩:=run;refine wp_region_any hm ?_;obtain⟨hlen,iN⟩:=vR.at (Γ0:=Γ) pre xs 0 [] (by simpa[eT] using run) (λe he=>by simp at he);have hf:∀i:Nat,(Array.replicate (pre++tail).length false).getD i false=false:=λi=>by
  rw[Array.getD_eq_getD_getElem?,Array.getElem?_replicate];split<;>rfl
 have Rh:∀(a:Act),made (λi=>(Array.replicate (pre++tail).length false).getD i false) a 0 pre xs=[]:=λa=>by
  rw[sM (S':=λ_=>false) λi o x f _ _=>hf _];have key:∀(k:Nat) (os:List Oper) (xs:List (AV×Mk)),made (λ_=>false) a k os xs=[]:=by
   intro k os;induction os generalizing k with
   |nil=>intro xs;unfold made;rfl
   |cons o os ih=>
    intro xs
    cases xs with
    |nil=>simp[made]
    |cons x xs=>
     obtain⟨x,r⟩:=x
     cases r with
     |none=>simp only[made];exact ih _ _
     |some f=>simp only[made,cond_false];exact ih _ _
  exact key _ _ _
 have:=Rc (P:=P) (c:=c) (H:=H) (Γ:=Γ) (Q:=Q) fB hlen (by simpa using hd) (λi o x ho hx=>by simpa using iN i o x ho hx) (λI' a' w' h=>by
  rw[<-Je] at h;exact k I' a' w' (by simpa using h)) (pre++tail).length (Array.replicate (pre++tail).length false) I a {w with drawn:=w.drawn+1} be
  (by simpa using List.length_filter_le _ (List.range (pre++tail).length)) (λi hi h=>by rw[hf] at h;cases h) (λi o ho hi=>by rw[hf] at hi;cases hi) (by
    have he:(eS 0 pre (xs.map (·.1))).reverse.filter (λe=>(Array.replicate (pre++tail).length false).getD e.1 false)=[]:=by
     rw[List.filter_eq_nil_iff];intro e _;rw[hf];simp
    rw[he,Rh,List.append_nil];exact⟨⟨U.step.le,U.step.fS,U.step.c9,U.step.below.drew⟩,⟨λo ho=>⟨o.iB I I w _ (Im.le_refl I) (λ_ _=>rfl) (U.own.all o ho).1,(U.own.all o ho).2⟩,U.own.apart⟩,U.env,U.size,U.defers⟩)
 simpa using this
def St.JN {id:Nat} {l:List Oper} (n:Nat) (U:St c I H Γ a w) (hm:P.follows .mixedOrders=true) (fB:mG (l.take n) (l.drop n)=true) (hd:((l.take n).all λo=>Nat.blt (o.dst.getD 0) c.n)=true)
 (run:fO P c H l.toArray Q (l.drop n) (λ_=>[]) 0 Γ (l.take n)):(Code.region id l.toArray true).wp P Q a w:=by
 have e:l.take n++l.drop n=l:=List.take_append_drop n l;have:=U.JM (id:=id) (Q:=Q) (l.take n) (l.drop n) hm fB hd (by rw[e];exact run);rwa[e] at this
def St.sQ {d:Nat} {T:TypeId} {l:List AV} (U:St c I (H++([]++[j8 T l (a.tmps.getD d undef)])) Γ a w) (h:Env.get d Γ=some AV.sP):∃b,St c I (H++[Own.box b T l]) ((d,.val (.pointer (some ⟨b,0,none⟩)))::Γ) a w:=by
 obtain⟨b,hb⟩:∃b,a.tmps.getD d undef=.pointer (some ⟨b,0,none⟩):=U.env d _ h;rw[hb] at U;refine⟨b,U.step,by simpa[j8] using U.own,λt x e=>?_,U.size,U.defers⟩;simp only[Env.get] at e;cases mI:Nat.beq d t with
 |true=>
  rw[mI] at e;simp only[cond_true] at e;cases e
  obtain rfl:d=t:=Nat.eq_of_beq_eq_true mI
  exact hb
 |false=>rw[mI] at e;exact U.env t x (by simpa using e)
def lH (P:Program) (c:Ctx) (H:List Own) (ops:Array Oper) (Q:Exit->Act->World->Prop) (tail:List Oper) (Γ:Env) (os:List Oper):Prop:=∀k,fO P c H ops Q tail (λ_=>[]) k Γ os
def lH.nil {ops:Array Oper} {tail:List Oper} (k:∀I' a' w',St c I' H Γ a' w'->wpList P ops Q tail a' w'):lH P c H ops Q tail Γ []:=λ_=>.nil λI a w U=>k I a w (by simpa using U)
def lH.cons {ops:Array Oper} {tail:List Oper} {o:Oper} {os:List Oper} {x:AV} (h:nX P H ops (Γ.only (o.looksAt ops)) o x) (k:lH P c H ops Q tail ((o.dst.getD 0,x)::Γ) os):lH P c H ops Q tail Γ (o::os):=λn=>.cons h (k (n+1))
def St.Ri {id:Nat} {l:List Oper} (n:Nat) (U:St c I H Γ a w) (hm:P.follows .mixedOrders=true) (fB:mG (l.take n) (l.drop n)=true) (hd:((l.take n).all λo=>Nat.blt (o.dst.getD 0) c.n)=true)
 (run:lH P c H l.toArray Q (l.drop n) Γ (l.take n)):(Code.region id l.toArray true).wp P Q a w:=U.JN n hm fB hd (run 0)
def iQ (P:Program) (c:Ctx) (H:List Own) (ops:Array Oper) (Q:Exit->Act->World->Prop) (Γ:Env) (os:List Oper):Prop:=lH P c H ops Q [] Γ os
def iQ.nil {ops:Array Oper} (k:∀I' a' w',St c I' H Γ a' w'->Q .normal a' w'):iQ P c H ops Q Γ []:=lH.nil λI a w h=>wpList_nil (k I a w h)
def iQ.cons {ops:Array Oper} {o:Oper} {os:List Oper} {x:AV} (h:nX P H ops (Γ.only (o.looksAt ops)) o x) (k:iQ P c H ops Q ((o.dst.getD 0,x)::Γ) os):iQ P c H ops Q Γ (o::os):=lH.cons h k
def St.Rj {id:Nat} {l:List Oper} (U:St c I H Γ a w) (hm:P.follows .mixedOrders=true) (fB:mG l []=true) (hd:(l.all λo=>Nat.blt (o.dst.getD 0) c.n)=true)
 (run:iQ P c H l.toArray Q Γ l):(Code.region id l.toArray true).wp P Q a w:=by
 have:=U.JM (id:=id) (Q:=Q) l [] hm fB hd (by rw[List.append_nil];exact run 0);rwa[List.append_nil] at this
end
def cP {f:FuncId} {l:List AV}:(AV.fn f l).One:=λ_ _ ⟨_,e,_⟩=>by rw[e];rfl
section
variable {P:Program}
def Bb (T:TypeId) (o:Nat):List Field->Bool
 |[]=>true
 |f::fs=>(f.name != "_" &&f.type==T&&f.offset==o)&&Bb T (o+1) fs
def JO {T m:TypeId} {zv:Value} (hT:P.underlying T=some (.int .i64)) (hy:Ty P T false 1 m zv) (d:Nat):∀(fs:List Field) (o:Nat) (pre xs ys vX:List Int) (w:World),Bb T o fs=true->pre.length=o->vX.length=o->xs.length=fs.length->ys.length=fs.length->
 (Op.eqFields (d+1) ((pre++xs).map (Value.int .i64)).toArray ((vX++ys).map (Value.int .i64)).toArray fs).run P w=.ok (xs==ys) w
 |[],o,pre,[],[],vX,w,_,_,_,_,_=>by simp[Op.eqFields,Sem.run_pure]
 |f::fs,o,pre,x::xs,y::ys,vX,w,h,hp,hq,hx,uf=>by
  simp only[Bb,Bool.and_eq_true,beq_iff_eq,bne_iff_ne] at h;obtain⟨⟨⟨h1,h2⟩,h3⟩,h4⟩:=h;have ih:=JO hT hy d fs (o+1) (pre++[x]) xs ys (vX++[y]) w h4 (by simp[hp]) (by simp[hq]) (by simpa using hx) (by simpa using uf);rw[List.append_assoc,List.append_assoc] at ih;have JP:∀(pre l:List Int) (x:Int),pre.length=o->(part T ((pre++x::l).map (Value.int .i64)).toArray o).run P w=.ok (.int .i64 x) w:=λpre l x hl=>by
   have e:((pre++x::l).map (Value.int .i64)).toArray[o]?=some (.int .i64 x):=by
    simp[List.getElem?_append_right,hl]
   simp only[part,Sem.run_bind,hy.isAgg,Result.andThen_ok,Bool.false_eq_true,if_false,e,Sem.run_pure]
  simp only[Op.eqFields];rw[if_pos h1,h2,h3];simp only[Sem.run_bind,JP pre xs x hp,JP vX ys y hq,Result.andThen_ok,run_equalIn_int w d T .i64 .i64 x y hT];by_cases Es:x=y
  .subst Es;simp only[beq_self_eq_true,Bool.not_true,Bool.false_eq_true,if_false];have e:((x::xs)==(x::ys))=(xs==ys):=by simp[List.cons_beq_cons]
   rw[e];exact ih
  have e:(x==y)=false:=by simpa using Es
  have e2:((x::xs)==(y::ys))=false:=by simp[Es]
  simp[e,e2,Sem.run_pure]
 |[],_,_,_::_,_,_,_,_,_,_,h,_=>by simp at h
 |[],_,_,[],_::_,_,_,_,_,_,_,h=>by simp at h
 |_::_,_,_,[],_,_,_,_,_,_,h,_=>by simp at h
 |_::_,_,_,_::_,[],_,_,_,_,_,_,h=>by simp at h
def ue.flat {T T3 m n:Nat} {zv:Value} (hT:P.underlying T3=some (.int .i64)) (hy:Ty P T3 false 1 m zv) (gd:P.eqGuardType P.depth T=false) (hu:P.underlying T=some (.struct (P.fieldsOf T))) (hp:P.stoodInHeld T=false) (hf:Bb T3 0 (P.fieldsOf T).toList=true) (hn:(P.fieldsOf T).toList.length=n):ue P T n:=
 ⟨gd,λxs ys w hx uf=>by
  rw[run_equalIn_agg w 9999 T _ _ hu hp];exact JO hT hy 9998 (P.fieldsOf T).toList 0 [] xs ys [] w hf rfl rfl (by rw[hx,hn]) (by rw[uf,hn])⟩
end
def Fn.JQ {P:Program} {f:FuncId} {args:List AV} {res:AV} (h:Fn P f args res):lg P (AV.val (.func (.func f) #[] #[])) args res:=λI w v vs hm e ha=>
 ⟨f,#[],#[],e,h.1,by simpa using h.2 I w vs hm ha⟩
end Go.Proofs.YtldbakcpcfdlaaaGreat
