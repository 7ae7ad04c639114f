/- Part 3: rules of the proofs. -/
import Derived.Lib.ItoaNum
import Derived.Laws.BytesString
import Derived.Laws.DeepStrings4
import Derived.Lib.SlBytesRow
import Derived.Lib.Strings
import Derived.Lib.ItoaLen
import Derived.Test.YtdanidpleofjgaaGreatP02
set_option linter.all false
namespace Go.Proofs.YtdanidpleofjgaaGreat
open Go Go.RowKit
def cq.perm {base:Nat->Prop} {I:Im} {w:World} {H H':List Own} (h:cq base I w H) (hp:H.Perm H'):cq base I w H':=
 ⟨λo ho=>h.all o (hp.mem_iff.2 ho),(hp.filterMap Own.eP).nodup_iff.1 h.nodup⟩
def cq.left {base:Nat->Prop} {I:Im} {w:World} {H K:List Own} (h:cq base I w (H++K)):cq base I w H:=
 ⟨λo ho=>h.all o (List.mem_append_left _ ho),h.nodup.sublist ((List.sublist_append_left H K).filterMap _)⟩
abbrev Mk:=Option (Value->Own)
def Dt (P:Program) (H:List Own) (ops:Array Oper) (Γ:Env) (o:Oper) (x:AV) (r:Mk):Prop:=
 ∀(base:Nat->Prop) (I:Im) (a:Act) (w:World) (K:Act->World->Prop) (Q:Exit->Act->World->Prop),dp I a Γ->eB w I->cq base I w H->
  (∀v I' w',x.h I' v->Step I w I' w'->(∀f,r=some f->(f v).ok I' w'/\∀b,(f v).eP=some b->w.heap.size<=b/\I' b=none/\b<w'.heap.size)->K (a.put o.dst v) w')->
  if Region.wanted o (yielded ops a.tmps) then o.wp P a w K Q else K (a.put o.dst undef) w
def pn.r {P:Program} {H:List Own} {ops:Array Oper} {Γ:Env} {o:Oper} {x:AV} (h:pn P H ops Γ o x):Dt P H ops Γ o x none:=
 λbase I a w K Q he hm hw k=>h base I a w K Q he hm hw λv I' w' hx U=>k v I' w' hx U λf e=>by cases e
def made (S:Nat->Bool) (a:Act):Nat->List Oper->List (AV×Mk)->List Own
 |k,o::os,(_,some f)::xs=>bif S k then f (a.tmps.getD (o.dst.getD 0) undef)::made S a (k+1) os xs else made S a (k+1) os xs
 |k,_::os,(_,none)::xs=>made S a (k+1) os xs
 |_,_,_=>[]
def Hc {S:Nat->Bool} {a a':Act}:∀{k:Nat} {os:List Oper} {xs:List (AV×Mk)},(∀(i:Nat) (o:Oper) (x:AV) (f:Value->Own),os[i]?=some o->xs[i]?=some (x,some f)->S (k+i)=true->a.tmps.getD (o.dst.getD 0) undef=a'.tmps.getD (o.dst.getD 0) undef)->made S a k os xs=made S a' k os xs
 |_,[],_,_=>by unfold made;rfl
 |_,_::_,[],_=>by simp[made]
 |k,o::os,(x,some f)::xs,h=>by
  have ih:=Hc (S:=S) (a:=a) (a':=a') (k:=k+1) (os:=os) (xs:=xs) λi o' x' f' h1 h2 h3=>h (i+1) o' x' f' (by simpa using h1) (by simpa using h2) (by rw[show k+(i+1)=k+1+i from by omega];exact h3);simp only[made];cases hS:S k
  .exact ih
  rw[h 0 o x f rfl rfl hS,ih]
 |k,o::os,(x,none)::xs,h=>by
  simp only[made];exact Hc λi o' x' f' h1 h2 h3=>h (i+1) o' x' f' (by simpa using h1) (by simpa using h2) (by rw[show k+(i+1)=k+1+i from by omega];exact h3)
def uU {S S':Nat->Bool} {a:Act}:∀{k:Nat} {os:List Oper} {xs:List (AV×Mk)},(∀(i:Nat) (o:Oper) (x:AV) (f:Value->Own),os[i]?=some o->xs[i]?=some (x,some f)->S (k+i)=S' (k+i))->made S a k os xs=made S' a k os xs
 |_,[],_,_=>by unfold made;rfl
 |_,_::_,[],_=>by simp[made]
 |k,o::os,(x,some f)::xs,h=>by
  simp only[made];rw[show S k=S' k from h 0 o x f rfl rfl,uU (S:=S) (S':=S') (k:=k+1) (os:=os) (xs:=xs) λi o' x' f' h1 h2=>by
   have:=h (i+1) o' x' f' (by simpa using h1) (by simpa using h2);rw[show k+1+i=k+(i+1) from by omega];exact this]
 |k,o::os,(x,none)::xs,h=>by
  simp only[made];exact uU λi o' x' f' h1 h2=>by
   have:=h (i+1) o' x' f' (by simpa using h1) (by simpa using h2);rw[show k+1+i=k+(i+1) from by omega];exact this
def Hd {S:Nat->Bool} {a:Act}:∀{k i:Nat} {os:List Oper} {xs:List (AV×Mk)} {o:Oper} {x:AV} {f:Value->Own},os[i]?=some o->xs[i]?=some (x,some f)->S (k+i)=false->
 (f (a.tmps.getD (o.dst.getD 0) undef)::made S a k os xs).Perm (made (λj=>if j=k+i then true else S j) a k os xs)
 |k,0,o'::os,(x',m)::xs,o,x,f,h1,h2,h3=>by
  simp at h1 h2;obtain⟨rfl,rfl⟩:=h2;subst h1;simp only[made];have WD:S k=false:=h3;rw[WD];simp only[Nat.add_zero,if_true,cond_true,cond_false];rw[uU (S:=S) (S':=λj=>if j=k then true else S j) λi o' x' f' _ _=>by rw[if_neg om]]
 |k,i+1,o'::os,(x',some f')::xs,o,x,f,h1,h2,h3=>by
  have ih:=Hd (S:=S) (a:=a) (k:=k+1) (i:=i) (os:=os) (xs:=xs) (o:=o) (x:=x) (f:=f) (by simpa using h1) (by simpa using h2) (by rw[show k+1+i=k+(i+1) from by omega];exact h3);rw[show k+1+i=k+(i+1) from by omega] at ih;simp only[made];rw[if_neg om];cases S k
  .exact ih
  exact(List.Perm.swap _ _ _).trans (ih.cons _)
 |k,i+1,o'::os,(x',none)::xs,o,x,f,h1,h2,h3=>by
  have ih:=Hd (S:=S) (a:=a) (k:=k+1) (i:=i) (os:=os) (xs:=xs) (o:=o) (x:=x) (f:=f) (by simpa using h1) (by simpa using h2) (by rw[show k+1+i=k+(i+1) from by omega];exact h3);rw[show k+1+i=k+(i+1) from by omega] at ih;simp only[made];exact ih
 |_,_,[],_,_,_,_,h1,_,_=>by simp at h1
 |_,_,_::_,[],_,_,_,_,h2,_=>by simp at h2
def yz (P:Program) (H:List Own) (ops:Array Oper):Env->List Oper->List (AV×Mk)->Prop
 |_,[],[]=>True
 |Γ,o::os,x::xs=>Dt P H ops (Γ.only (o.looksAt ops)) o x.1 x.2/\yz P H ops ((o.dst.getD 0,x.1)::Γ) os xs
 |_,_,_=>False
def yz.at {P:Program} {H:List Own} {ops:Array Oper} {Γ0:Env}:∀(os:List Oper) (xs:List (AV×Mk)) (k:Nat) (done:List oB),yz P H ops (fE done++Γ0) os xs->(∀e∈done,e.1<k)->
 os.length=xs.length/\∀i o x,os[i]?=some o->xs[i]?=some x->Dt P H ops ((fE (((fD k os (xs.map (·.1))).reverse++done).filter λe=>decide (e.1<k+i))++Γ0).only (o.looksAt ops)) o x.1 x.2
 |[],[],_,_,_,_=>⟨rfl,λi o x h=>by simp at h⟩
 |o::os,x::xs,k,done,h,hd=>by
  obtain⟨h1,h2⟩:=h;have ih:=yz.at os xs (k+1) ((k,o.dst.getD 0,x.1)::done) h2 (λe he=>by
   rcases List.mem_cons.1 he with rfl|he
   .simp
   have:=hd e he;omega)
  refine⟨by simp[ih.1],λi o' x' ho hx=>?_⟩;have AL:(fD k (o::os) ((x::xs).map (·.1))).reverse++done=(fD (k+1) os (xs.map (·.1))).reverse++((k,o.dst.getD 0,x.1)::done):=by simp[fD]
  rw[AL];cases i with
  |zero=>
   simp at ho hx;subst ho hx
   have hf:((fD (k+1) os (xs.map (·.1))).reverse++((k,o.dst.getD 0,x.1)::done)).filter (λe=>decide (e.1<k+0))=done:=by
    rw[List.filter_append];have e1:(fD (k+1) os (xs.map (·.1))).reverse.filter (λe=>decide (e.1<k+0))=[]:=by
     rw[List.filter_eq_nil_iff];intro e he;have:=(Dg (k+1) os (xs.map (·.1))).2 e (List.mem_reverse.1 he);simp;omega
    rw[e1,List.filter_cons];simp only[Nat.add_zero,Nat.lt_irrefl,decide_false,Bool.false_eq_true,if_false,List.nil_append];rw[List.filter_eq_self];intro e he;simpa using hd e he
   rw[hf];exact h1
  |succ i=>
   have:=ih.2 i o' x' (by simpa using ho) (by simpa using hx)
   rw[show k+(i+1)=k+1+i from by omega]
   exact this
 |[],_::_,_,_,h,_=>h.elim
 |_::_,[],_,_,h,_=>h.elim
def nP (pre tail:List Oper):Bool:=
 let l:=pre++tail
 let C:=jW [] l
 let p:=pre.length
 (l.zipIdx.all λ(o,i)=>(o.after.toList.all λe=>!Region.binds .any e||Nat.blt e.on i))&&
 (pre.zipIdx.all λ(o,i)=>o.dst.isSome&&
   ((slotsOf l.toArray o).all λt=>pre.zipIdx.all λ(o',j)=>Nat.beq i j||!(o'.dst==some t)||(if j<i then(C.getD i []).contains j else(C.getD j []).contains i))&&
   (pre.zipIdx.all λ(o',j)=>Nat.beq i j||!(o'.dst==o.dst)))&&
 (List.range tail.length).all λi=>(List.range (p+i)).all λj=>(C.getD (p+i) []).contains j
def He {pre tail:List Oper} (h:nP pre tail=true) {i:Nat} {o:Oper} (ho:(pre++tail)[i]?=some o):∀e∈o.after.toList,Region.binds .any e=true->e.on<i:=λe he hb=>by
 simp only[nP,List.all_eq_true,Bool.and_eq_true] at h;have hm:(o,i)∈(pre++tail).zipIdx:=by rw[List.mem_zipIdx_iff_getElem?];exact ho
 have:=h.1.1 _ hm e he;rw[hb] at this;simpa using this
def Hg {pre tail:List Oper} (h:nP pre tail=true) {i:Nat} {o:Oper} (ho:pre[i]?=some o):
 (∃d,o.dst=some d)/\(∀t∈slotsOf (pre++tail).toArray o,∀j o',pre[j]?=some o'->i≠j->o'.dst=some t->if j<i then j∈(jW [] (pre++tail)).getD i [] else i∈(jW [] (pre++tail)).getD j [])/\
 ∀j o',pre[j]?=some o'->i≠j->o'.dst≠o.dst:=by
 simp only[nP,List.all_eq_true,Bool.and_eq_true] at h;have hm:(o,i)∈pre.zipIdx:=by rw[List.mem_zipIdx_iff_getElem?];exact ho
 obtain⟨⟨h1,h3⟩,h4⟩:=h.1.2 _ hm;have hb:∀j,i≠j->Nat.beq i j=false:=λj aX=>by
  cases hb:Nat.beq i j with
  |false=>rfl
  |true=>exact absurd (Nat.eq_of_beq_eq_true hb) aX
 refine⟨Option.isSome_iff_exists.1 h1,λt ht j o' mi aX hd=>?_,λj o' mi aX hd=>?_⟩
 .have nN:(o',j)∈pre.zipIdx:=by rw[List.mem_zipIdx_iff_getElem?];exact mi
  have:=h3 t ht _ nN;simp only[hb j aX,hd,Bool.false_or] at this;have h5:(!(some t==some t))=false:=by simp
  rw[h5,Bool.false_or] at this;split
  .rename_i bw;rw[if_pos bw] at this;simpa using this
  rename_i bw;rw[if_neg bw] at this;simpa using this
 have nN:(o',j)∈pre.zipIdx:=by rw[List.mem_zipIdx_iff_getElem?];exact mi
 have:=h4 _ nN;simp only[hb j aX,hd,Bool.false_or] at this;simp at this
def Hh {pre tail:List Oper} (h:nP pre tail=true) {i j:Nat} (hi:pre.length<=i) (ji:i<(pre++tail).length) (hj:j<i):j∈(jW [] (pre++tail)).getD i []:=by
 simp only[nP,List.all_eq_true,Bool.and_eq_true] at h;have:=h.2 (i-pre.length) (by simp at ji⊢;omega) j gQ;rw[show pre.length+(i-pre.length)=i from by omega] at this;simpa using this
section
variable {P:Program} {c:Ctx} {I:Im} {H:List Own} {Γ:Env} {a:Act} {w:World} {Q:Exit->Act->World->Prop}
def yA {listed:Array Bool} {i:Nat} (h:i<listed.size):listed.getD i true=listed.getD i false:=by simp[h]
def Hi {pre tail:List Oper} {listed:Array Bool} (cT:listed.size=(pre++tail).length)
 (bq:∀(i:Nat) (o:Oper),(pre++tail)[i]?=some o->listed.getD i false=true->∀e∈o.after.toList,Region.binds .any e=true->listed.getD e.on false=true) {i:Nat} {o:Oper} (ho:(pre++tail)[i]?=some o)
 (h3:∀e∈o.after.toList,Region.binds .any e=true->listed.getD e.on false=true):∀j,j≠i->j∈(jW [] (pre++tail)).getD i []->listed.getD j false=true:=λj AZ hj=>by
 have bw:i<(pre++tail).length:=(List.getElem?_eq_some_iff.1 ho).1;have j1:∀j,(listed.setIfInBounds i true).getD j false=if j=i then true else listed.getD j false:=λj=>Dh om false
 have WE:=Df (S:=λj=>(listed.setIfInBounds i true).getD j false) (pre++tail) [] (λi k hk=>by simp at hk) (λi' o' mi qX e he hb=>by
  have ji:(listed.setIfInBounds i true).getD i' false=true:=by simpa using qX
  show(listed.setIfInBounds i true).getD e.on false=true;rw[j1] at ji⊢;split
  .rfl
  split at ji
  .rename_i A0;subst A0;rw[ho] at mi;cases mi;exact h3 e he hb
  exact bq i' o' mi ji e he hb)
 have h':=WE i j hj (by show(listed.setIfInBounds i true).getD i false=true;rw[j1];simp);have WG:(listed.setIfInBounds i true).getD j false=true:=h';rwa[j1,if_neg AZ] at WG
def Du {pre tail:List Oper} (hE:∀{i:Nat} {o:Oper},(pre++tail)[i]?=some o->∀e∈o.after.toList,Region.binds .any e=true->e.on<i)
 (hT:∀{i j:Nat},pre.length<=i->i<(pre++tail).length->j<i->j∈(jW [] (pre++tail)).getD i []):∀(m j:Nat) (listed:Array Bool) (fuel:Nat) (a:Act) (w:World),(pre++tail).length-j=m->pre.length<=j->j<=(pre++tail).length->m<=fuel->listed.size=(pre++tail).length->
 (∀i,i<(pre++tail).length->(listed.getD i false=true↔i<j))->wpList P (pre++tail).toArray Q ((pre++tail).drop j) a w->wpAny P .any (pre++tail).toArray Q fuel listed a w:=by
 intro m;induction m with
 |zero=>
  intro j listed fuel a w hm hp hj hf cT hl h
  have tC:j=(pre++tail).length:=by omega
  have oE:(pre++tail).drop j=[]:=by rw[tC];simp
  rw[oE] at h
  have Nv:Region.ready .any (pre++tail).toArray listed=[]:=by
   rw[List.eq_nil_iff_forall_not_mem];intro i hi;obtain⟨h1,o,h2,_⟩:=mem_ready.1 hi;have bw:i<(pre++tail).length:=by have:=(Array.getElem?_eq_some_iff.1 h2).1;simpa using this
   have h4:=(hl i bw).2 om;have h5:listed.getD i true=listed.getD i false:=yA om;rw[h5,h4] at h1;cases h1
  cases fuel with
  |zero=>exact⟨Nv,h⟩
  |succ fuel=>exact⟨λ_=>h,λi hi=>by rw[Nv] at hi;cases hi⟩
 |succ m ih=>
  intro j listed fuel a w hm hp hj hf cT hl h
  have lT:j<(pre++tail).length:=by omega
  cases fuel with
  |zero=>omega
  |succ fuel=>
   have bq:∀(i:Nat) (o:Oper),(pre++tail)[i]?=some o->listed.getD i false=true->∀e∈o.after.toList,Region.binds .any e=true->listed.getD e.on false=true:=λi o ho hi e he hb=>by
    have bw:i<(pre++tail).length:=(List.getElem?_eq_some_iff.1 ho).1;have h1:=(hl i bw).1 hi;have h2:=hE ho e he hb;exact(hl e.on om).2 om
   have hd:∀i,i<(pre++tail).length->listed.getD i true=listed.getD i false:=λi hi=>yA om
   have WH:∀i∈Region.ready .any (pre++tail).toArray listed,i=j:=λi hi=>by
    obtain⟨h1,o,h2,h3⟩:=mem_ready.1 hi;have bw:i<(pre++tail).length:=by have:=(Array.getElem?_eq_some_iff.1 h2).1;simpa using this
    have ho:(pre++tail)[i]?=some o:=by simpa using h2
    have yB:¬i<j:=λh'=>by rw[hd i bw,(hl i bw).2 h'] at h1;cases h1
    by_cases j9:i=j
    .exact j9
    have hb:=Hi cT bq ho (λe he hb=>h3 e (by simpa using he) hb) j (λe=>j9 e.symm) (hT om bw om);have:=(hl j lT).1 hb;omega
   refine⟨λhr=>?_,λi hi=>?_⟩
   .exfalso
    have:j∈Region.ready .any (pre++tail).toArray listed:=by
     refine mem_ready.2 ⟨?_,(pre++tail)[j],by simp[lT],λe he hb=>?_⟩
     .rw[hd j lT];cases hb:listed.getD j false with
      |false=>rfl
      |true=>have:=(hl j lT).1 hb;omega
     have h2:=hE (i:=j) (o:=(pre++tail)[j]) (by simp[lT]) e (by simpa using he) hb;exact(hl e.on om).2 h2
    rw[hr] at this;cases this
   obtain rfl:=WH i hi
   have oE:(pre++tail).drop i=(pre++tail)[i]::(pre++tail).drop (i+1):=List.drop_eq_getElem_cons lT
   rw[oE] at h
   have Nw:∀a w,wpList P (pre++tail).toArray Q ((pre++tail).drop (i+1)) a w->wpAny P .any (pre++tail).toArray Q fuel (listed.setIfInBounds i true) a w:=λa w h'=>
    ih (i+1) (listed.setIfInBounds i true) fuel a w om om om om (by simpa using cT) (λk hk=>by
     rw[Dh om];split
     .rename_i e;subst e;simp
     rename_i e;rw[hl k hk];omega) h'
   unfold wpOp
   have hg:(pre++tail).toArray[i]?=some (pre++tail)[i]:=by simp[lT]
   simp only[hg]
   unfold wpList at h
   by_cases hw:Region.wanted (pre++tail)[i] (yielded (pre++tail).toArray a.tmps)=true
   .rw[if_pos hw] at h⊢;exact h.imp (Oper.wp_mono Nw) id
   rw[if_neg hw] at h⊢;exact Nw _ _ h
def Nx {pre tail:List Oper} {listed:Array Bool} {n:Nat} (hf:((List.range (pre++tail).length).filter λi=>!listed.getD i false).length<=n) (oF:∀i,i<(pre++tail).length->listed.getD i false=true->i<pre.length) (aT:∀i,i<pre.length->listed.getD i false=true):(pre++tail).length-pre.length<=n:=by
 have h1:((List.range (pre++tail).length).filter λi=>!listed.getD i false)=(List.range (pre++tail).length).filter λi=>decide (pre.length<=i):=by
  apply List.filter_congr;intro i hi;have qX:i<(pre++tail).length:=by simpa using hi
  cases hb:listed.getD i false with
  |true=>have:=oF i qX hb;simp;omega
  |false=>
   have:¬i<pre.length:=λh=>by rw[aT i h] at hb;cases hb
   simp;omega
 rw[h1] at hf;have h2:((List.range (pre++tail).length).filter λi=>decide (pre.length<=i)).length=(pre++tail).length-pre.length:=by
  have:(List.range (pre++tail).length)=List.range pre.length++(List.range tail.length).map (pre.length+·):=by
   rw[List.length_append,List.range_add]
  rw[this,List.filter_append];have a1:(List.range pre.length).filter (λi=>decide (pre.length<=i))=[]:=by
   rw[List.filter_eq_nil_iff];intro i hi;simp at hi⊢;omega
  have a2:((List.range tail.length).map (pre.length+·)).filter (λi=>decide (pre.length<=i))=(List.range tail.length).map (pre.length+·):=by
   rw[List.filter_eq_self];intro i hi;simp at hi⊢;omega
  rw[a1,a2];simp
 omega
def WI {pre tail:List Oper} {xs:List (AV×Mk)} (gE:nP pre tail=true) (hlen:pre.length=xs.length) (hd:∀o∈pre,Nat.blt (o.dst.getD 0) c.n=true)
 (run:∀i o x,pre[i]?=some o->xs[i]?=some x->Dt P H (pre++tail).toArray ((fE ((fD 0 pre (xs.map (·.1))).reverse.filter λe=>decide (e.1<i))++Γ).only (o.looksAt (pre++tail).toArray)) o x.1 x.2)
 (k:∀I' a' w',St c I' (H++made (λ_=>true) a' 0 pre xs) (fE (fD 0 pre (xs.map (·.1))).reverse++Γ) a' w'->wpList P (pre++tail).toArray Q tail a' w'):
 ∀(fuel:Nat) (listed:Array Bool) (I:Im) (a:Act) (w:World),listed.size=(pre++tail).length->((List.range (pre++tail).length).filter λi=>!listed.getD i false).length<=fuel->
  (∀i,i<(pre++tail).length->listed.getD i false=true->i<pre.length)->
  (∀(i:Nat) (o:Oper),(pre++tail)[i]?=some o->listed.getD i false=true->∀e∈o.after.toList,Region.binds .any e=true->listed.getD e.on false=true)->
  St c I (H++made (λi=>listed.getD i false) a 0 pre xs) (fE ((fD 0 pre (xs.map (·.1))).reverse.filter λe=>listed.getD e.1 false)++Γ) a w->wpAny P .any (pre++tail).toArray Q fuel listed a w:=by
 have hL:(fD 0 pre (xs.map (·.1))).reverse.Pairwise (λe f=>f.1<e.1):=by
  rw[List.pairwise_reverse];exact(Dg 0 pre (xs.map (·.1))).1
 have sq:∀e∈(fD 0 pre (xs.map (·.1))).reverse,∃o',pre[e.1]?=some o'/\o'.dst=some e.2.1:=λe he=>by
  obtain⟨j,o',g1,_,g3,g4⟩:=M2 (List.mem_reverse.1 he);obtain⟨d',jX⟩:=(Hg gE g1).1;refine⟨o',by rw[g3,Nat.zero_add];exact g1,?_⟩;rw[g4,jX];rfl
 intro fuel;induction fuel with
 |zero=>
  intro listed I a w cT hf oF bq U
  have h0:∀i,i<(pre++tail).length->listed.getD i false=true:=λi hi=>by
   have:(List.range (pre++tail).length).filter (λi=>!listed.getD i false)=[]:=List.eq_nil_of_length_eq_zero om;rw[List.filter_eq_nil_iff] at this;simpa using this i (by simpa using hi)
  have jO:tail=[]:=by
   rcases tail with _|⟨t,ts⟩
   .rfl
   have:=oF pre.length bk (h0 pre.length bk);omega
  have e1:(fD 0 pre (xs.map (·.1))).reverse.filter (λe=>listed.getD e.1 false)=(fD 0 pre (xs.map (·.1))).reverse:=by
   rw[List.filter_eq_self];intro e he;obtain⟨o',h1,_⟩:=sq e he;have:=(List.getElem?_eq_some_iff.1 h1).1;exact h0 e.1 gQ
  have e2:made (λi=>listed.getD i false) a 0 pre xs=made (λ_=>true) a 0 pre xs:=uU λi o x f h1 h2=>by
   have:=(List.getElem?_eq_some_iff.1 h1).1;rw[Nat.zero_add];exact h0 i gQ
  rw[e1,e2] at U
  have hw:=k I a w U
  exact Du (He gE) (Hh gE) 0 (pre++tail).length listed 0 a w om bk om om cT (λi hi=>⟨λ_=>hi,λ_=>h0 i hi⟩) (by subst jO;simpa using hw)
 |succ fuel ih=>
  intro listed I a w cT hf oF bq U
  by_cases aT:∀i,i<pre.length->listed.getD i false=true
  .have e1:(fD 0 pre (xs.map (·.1))).reverse.filter (λe=>listed.getD e.1 false)=(fD 0 pre (xs.map (·.1))).reverse:=by
    rw[List.filter_eq_self];intro e he;obtain⟨o',h1,_⟩:=sq e he;exact aT e.1 (List.getElem?_eq_some_iff.1 h1).1
   have e2:made (λi=>listed.getD i false) a 0 pre xs=made (λ_=>true) a 0 pre xs:=uU λi o x f h1 h2=>by
    rw[Nat.zero_add];exact aT i (List.getElem?_eq_some_iff.1 h1).1
   rw[e1,e2] at U
   have WJ:=Nx hf oF aT
   refine Du (He gE) (Hh gE) _ pre.length listed (fuel+1) a w rfl om bk WJ cT (λi hi=>⟨oF i hi,aT i⟩) ?_
   rw[List.drop_left]
   exact k I a w U
  have A1:∃i0,i0<pre.length/\listed.getD i0 false=false:=by
   refine Classical.byContradiction λhn=>aT λi hi=>?_;cases hb:listed.getD i false with
   |true=>rfl
   |false=>exact absurd ⟨i,hi,hb⟩ hn
  obtain⟨i0,A2,tD⟩:=A1
  refine⟨λhr=>?_,λi hi=>?_⟩
  .exfalso
   have:∀i,i<(pre++tail).length->listed.getD i false=true:=λi=>by
    induction i using Nat.strongRecOn with
    |_ i AI=>
     intro hi
     cases hl:listed.getD i false with
     |true=>rfl
     |false=>
      have dq:i∈Region.ready .any (pre++tail).toArray listed:=by
       refine mem_ready.2 ⟨by rw[yA om];exact hl,(pre++tail)[i],by simp[hi],λe he hb=>?_⟩;have bw:=He gE (i:=i) (o:=(pre++tail)[i]) (by simp[hi]) e (by simpa using he) hb;exact AI e.on bw om
      rw[hr] at dq;cases dq
   rw[this i0 gQ] at tD;cases tD
  obtain⟨h1,o,h2,h3⟩:=mem_ready.1 hi
  have bw:i<(pre++tail).length:=by have:=(Array.getElem?_eq_some_iff.1 h2).1;simpa using this
  have kW:(pre++tail)[i]?=some o:=by simpa using h2
  rw[yA om] at h1
  have aM:=Hi cT bq kW (λe he hb=>h3 e (by simpa using he) hb)
  have Ny:i<pre.length:=by
   refine Classical.byContradiction λhn=>?_;have:=aM i0 om (Hh gE om bw om);rw[this] at tD;cases tD
  have ho:pre[i]?=some o:=by rw[List.getElem?_append_left Ny] at kW;exact kW
  obtain⟨⟨d,wJ⟩,Dv,Nz⟩:=Hg gE ho
  have Hj:=Df (S:=λj=>listed.getD j false) (pre++tail) [] (λi k hk=>by simp at hk) (λi o ho hi e he hb=>bq i o ho (by simpa using hi) e he hb)
  have wL:∀j,i∈(jW [] (pre++tail)).getD j []->listed.getD j false=false:=λj hj=>by
   cases hb:listed.getD j false with
   |false=>rfl
   |true=>rw[Hj j i hj hb] at h1;cases h1
  have j1:∀j,(listed.setIfInBounds i true).getD j false=if j=i then true else listed.getD j false:=λj=>Dh om false
  have Hk:∀(i':Nat) (o':Oper),(pre++tail)[i']?=some o'->(listed.setIfInBounds i true).getD i' false=true->∀e∈o'.after.toList,Region.binds .any e=true->(listed.setIfInBounds i true).getD e.on false=true:=λi' o' mi ji e he hb=>by
   rw[j1] at ji⊢;split
   .rfl
   split at ji
   .rename_i A0;subst A0;rw[kW] at mi;cases mi;exact h3 e (by simpa using he) hb
   exact bq i' o' mi ji e he hb
  have mJ:i<xs.length:=by omega
  have nk:xs[i]?=some xs[i]:=by simp[mJ]
  generalize xs[i]=x at nk
  obtain⟨x,r⟩:=x
  have WK:(xs.map (·.1))[i]?=some x:=by simp[nk]
  have j0:=run i o (x,r) ho nk
  have Hl:dp I a ((fE ((fD 0 pre (xs.map (·.1))).reverse.filter λe=>decide (e.1<i))++Γ).only (o.looksAt (pre++tail).toArray)):=λt y e=>by
   obtain⟨g1,g2⟩:=Env.GU e;have ht:t∈slotsOf (pre++tail).toArray o:=by
    unfold slotsOf;rw[List.mem_append];exact .inr (by simpa using g2)
   rw[AK (q:=λe=>listed.getD e.1 false) _ (λe he qY=>?_)] at g1
   .exact U.env t y g1
   obtain⟨o',k1,k2⟩:=sq e he;by_cases wM:e.1=i
   .rw[wM,h1];simp
   have:=Dv t ht e.1 o' k1 (λh=>wM h.symm) (by rw[k2,qY]);split at this
   .rename_i oG;rw[aM e.1 wM this];simpa using oG
   rename_i oG;rw[wL e.1 this];simpa using oG
  have Hm:((List.range (pre++tail).length).filter λj=>!(listed.setIfInBounds i true).getD j false).length<=fuel:=by
   have:=filter_lt (l:=List.range (pre++tail).length) (p:=λj=>!listed.getD j false) (q:=λj=>!(listed.setIfInBounds i true).getD j false) (i:=i) (by simpa using bw) (by simp only[h1];rfl) (by simp only[j1];simp) (λj hj=>by
    simp only[j1] at hj;split at hj
    .cases hj
    exact hj)
   omega
  have Hn:∀j,j<(pre++tail).length->(listed.setIfInBounds i true).getD j false=true->j<pre.length:=λj hj hb=>by
   rw[j1] at hb;split at hb
   .rename_i e;subst e;exact Ny
   exact oF j hj hb
  have uR:(i,d,x)∈(fD 0 pre (xs.map (·.1))).reverse:=by
   rw[List.mem_reverse];have:=V7 (k:=0) ho WK;rwa[wJ,Nat.zero_add] at this
  unfold wpOp
  simp only[h2]
  have lI:=j0 c.own I a w (wpAny P .any (pre++tail).toArray Q fuel (listed.setIfInBounds i true)) Q Hl U.step.dz U.own.left (λv I' w' hv st WL=>by
   refine ih (listed.setIfInBounds i true) I' _ w' (by simpa using cT) Hm Hn Hk ?_;rw[wJ];have ss:d<c.n:=by
    have:=hd o (List.mem_of_getElem? ho);rw[wJ] at this;simpa using this
   have pr:=U.put (d:=d) (x:=x) (v:=v) ss hv st;have sg:made (λi=>listed.getD i false) a 0 pre xs=made (λi=>listed.getD i false) (a.put (some d) v) 0 pre xs:=Hc λj o' x' f' g1 g2 g3=>by
    have AZ:j≠i:=λe=>by subst e;rw[Nat.zero_add,h1] at g3;cases g3
    have aX:=Nz j o' g1 (λe=>AZ e.symm);obtain⟨d',jX⟩:=(Hg gE g1).1;have uV:d≠d':=λe=>aX (by rw[jX,wJ,e]);rw[jX];simp[Act.put,uV]
   have eG:cq c.own I' w' (H++made (λj=>(listed.setIfInBounds i true).getD j false) (a.put (some d) v) 0 pre xs):=by
    have h6:=pr.own;rw[sg] at h6;cases r with
    |none=>
     have e3:made (λj=>(listed.setIfInBounds i true).getD j false) (a.put (some d) v) 0 pre xs=made (λi=>listed.getD i false) (a.put (some d) v) 0 pre xs:=uU λj o' x' f' g1 g2=>by
      have AZ:j≠i:=λe=>by subst e;rw[nk] at g2;cases g2
      rw[Nat.zero_add,j1,if_neg AZ]
     rw[e3];exact h6
    |some f=>
     obtain⟨an,kq⟩:=WL f rfl
     have dZ:(a.put (some d) v).tmps.getD d undef=v:=by simp[Act.put,U.size,ss]
     have hp:=Hd (S:=λi=>listed.getD i false) (a:=a.put (some d) v) (k:=0) ho nk (by rw[Nat.zero_add];exact h1)
     rw[wJ] at hp
     simp only[Option.getD_some,dZ] at hp
     have e4:made (λj=>if j=0+i then true else listed.getD j false) (a.put (some d) v) 0 pre xs=made (λj=>(listed.setIfInBounds i true).getD j false) (a.put (some d) v) 0 pre xs:=uU λj o' x' f' g1 g2=>by
      rw[j1];simp
     rw[e4] at hp
     have h7:cq c.own I' w' (f v::(H++made (λi=>listed.getD i false) (a.put (some d) v) 0 pre xs)):=by
      refine⟨λo ho=>?_,?_⟩
      .rcases List.mem_cons.1 ho with rfl|ho
       .exact⟨an,λb e=>by
         obtain⟨q1,q2,q3⟩:=kq b e;exact⟨.inl (Nat.le_trans U.step.below.size q1),q2,q3⟩⟩
       exact h6.all o ho
      rw[List.filterMap_cons];cases hb:(f v).eP with
      |none=>exact h6.nodup
      |some b=>
       refine List.nodup_cons.2 ⟨λhm=>?_,h6.nodup⟩
       obtain⟨y,hy,e⟩:=List.mem_filterMap.1 hm
       rw[<-sg] at hy
       have:=((U.own.all y hy).2 b e).2.2
       have:=(kq b hb).1
       omega
     exact h7.perm ((List.perm_middle.symm).trans (hp.append_left H))
   refine⟨pr.step,eG,?_,pr.size,pr.defers⟩;intro t y e;refine pr.env t y ?_;by_cases tE:t=d
   .subst tE;rw[GV (i:=i) (x:=x) _ hL uR (by simp only[j1];simp) (λe he hp qY=>?_)] at e
    .rw[<-e];simp[Env.get]
    obtain⟨o',k1,k2⟩:=sq e he;by_cases hle:e.1<=i
    .exact hle
    have aX:e.1≠i:=by omega
    exact absurd (by rw[k2,qY,wJ]) (Nz e.1 o' k1 (λh=>aX h.symm))
   rw[AK (q:=λe=>listed.getD e.1 false) _ (λe he qY=>?_)] at e
   .have hb:Nat.beq d t=false:=by
     cases hb:Nat.beq d t with
     |false=>rfl
     |true=>exact absurd (Nat.eq_of_beq_eq_true hb).symm tE
    simp only[Env.get,hb,cond_false];exact e
   obtain⟨o',k1,k2⟩:=sq e he;have aX:e.1≠i:=λh=>by
    rw[h,ho] at k1;cases k1;rw[wJ] at k2;cases k2;exact tE qY.symm
   simp only[j1,if_neg aX])
  by_cases hw:Region.wanted o (yielded (pre++tail).toArray a.tmps)=true
  .rw[if_pos hw] at lI⊢;exact .inl lI
  rw[if_neg hw] at lI⊢;exact lI
end
structure cx where
 time:Int
 site:Int
deriving DecidableEq,Inhabited
structure au where
 key:Int
 aq:cx
deriving DecidableEq,Inhabited
structure aE where
 key:Int
 aq:cx
 val:Int
 ao:Int
 call:Int
 aQ:List au
deriving DecidableEq,Inhabited
structure ax where
 kind:Int
 aO:Int
 to:Int
 call:Int
 key:Int
 aq:cx
 val:Int
 yes:Bool
 aQ:List au
 slot:Int
 ba:Int
 ai:List aE
 waits:List aE
 aD:List au
deriving DecidableEq,Inhabited
structure cY where
 ba:Int
 bD:Int
deriving DecidableEq,Inhabited
structure Server where
 site:Int
 up:Bool
 aw:List cY
 ai:List aE
 waits:List aE
 aD:List au
 aV:List au
deriving DecidableEq,Inhabited
structure Answer where
 key:Int
 yes:Bool
 bl:aE
deriving DecidableEq,Inhabited
structure Call where
 ao:Int
 num:Int
 kind:Int
 keys:List Int
 val:Int
 ctx:List au
 bH:Int
 end_:Int
 over:Bool
 aq:cx
 aC:List Answer
 aL:List au
deriving DecidableEq,Inhabited
structure aj where
 time:Int
 aA:List Server
 al:List ax
 calls:List Call
 seen:List (List au)
deriving DecidableEq,Inhabited
structure Ev where
 kind:Int
 at_:Int
 ao:Int
 word:Int
 fe:Int
 slot:Int
 call:Int
 a:Int
 b:Int
 c:Int
 val:Int
deriving DecidableEq,Inhabited
def cx.cells (s:cx):List AV:=[.int s.time,.int s.site]
def au.cells (d:au):List AV:=[.int d.key,.int d.aq.time,.int d.aq.site]
def bE (l:List au):AV:=.rows 3 (l.map au.cells)
def aE.cells (v:aE):List AV:=[.int v.key,.int v.aq.time,.int v.aq.site,.int v.val,.int v.ao,.int v.call,bE v.aQ]
def cn (l:List aE):AV:=.rows 7 (l.map aE.cells)
def ax.cells (w:ax):List AV:=[.int w.kind,.int w.aO,.int w.to,.int w.call,.int w.key,.int w.aq.time,.int w.aq.site,.int w.val,.bool w.yes,bE w.aQ,.int w.slot,.int w.ba,cn w.ai,cn w.waits,bE w.aD]
def dR (l:List ax):AV:=.rows 15 (l.map ax.cells)
def cY.cells (s:cY):List AV:=[.int s.ba,.int s.bD]
def su (l:List cY):AV:=.rows 2 (l.map cY.cells)
def Server.cells (s:Server):List AV:=[.int s.site,.bool s.up,su s.aw,cn s.ai,cn s.waits,bE s.aD,bE s.aV]
def mL (l:List Server):AV:=.rows 7 (l.map Server.cells)
def Answer.cells (a:Answer):List AV:=[.int a.key,.bool a.yes,.int a.bl.key,.int a.bl.aq.time,.int a.bl.aq.site,.int a.bl.val,.int a.bl.ao,.int a.bl.call,bE a.bl.aQ]
def sw (l:List Answer):AV:=.rows 9 (l.map Answer.cells)
def Dw (k:Int):List AV:=[.int k]
def jb (l:List Int):AV:=.rows 1 (l.map Dw)
def Call.cells (c:Call):List AV:=[.int c.ao,.int c.num,.int c.kind,jb c.keys,.int c.val,bE c.ctx,.int c.bH,.int c.end_,.bool c.over,.int c.aq.time,.int c.aq.site,sw c.aC,bE c.aL]
def jl (l:List Call):AV:=.rows 13 (l.map Call.cells)
def fX (l:List au):List AV:=[bE l]
def kY (l:List (List au)):AV:=.rows 1 (l.map fX)
def aj.cells (w:aj):List AV:=[.int w.time,mL w.aA,dR w.al,jl w.calls,kY w.seen]
def Ev.cells (e:Ev):List AV:=[.int e.kind,.int e.at_,.int e.ao,.int e.word,.int e.fe,.int e.slot,.int e.call,.int e.a,.int e.b,.int e.c,.int e.val]
def NA (l:List Ev):AV:=.rows 11 (l.map Ev.cells)
def cx.av (s:cx):AV:=.agg s.cells
def au.av (s:au):AV:=.agg s.cells
def aE.av (s:aE):AV:=.agg s.cells
def ax.av (s:ax):AV:=.agg s.cells
def cY.av (s:cY):AV:=.agg s.cells
def Server.av (s:Server):AV:=.agg s.cells
def Answer.av (s:Answer):AV:=.agg s.cells
def Call.av (s:Call):AV:=.agg s.cells
def aj.av (s:aj):AV:=.agg s.cells
def Ev.av (s:Ev):AV:=.agg s.cells
end Go.Proofs.YtdanidpleofjgaaGreat
namespace Go.Proofs.YtdanidpleofjgaaGreat
def kv (n:Int):Prop:=-9223372036854775808<=n/\n<=9223372036854775807
def aH (n low high:Int):Bool:=decide (low<=n)&&decide (n<=high)
def cr (n:Int):Bool:=aH n 0 3
def c7 (n:Int):Bool:=aH n 0 5
def fF (n:Int):Bool:=aH n 0 1
def di (s:cx):Bool:=aH s.time 1 9999&&cr s.site
def bV (a b:cx):Bool:=decide (a.time<b.time)||(a.time==b.time&&decide (a.site<b.site))
def dS (s:cx):Bool:=s.time==0&&s.site==0
def lU (s:cx):Bool:=dS s||di s
def bM (n:Int):Int:=if cr n then n/2 else-1
def eD (a b:au):Bool:=decide (a.key<b.key)||(a.key==b.key&&bV a.aq b.aq)
def eb (last:Int):List au->Bool
 |[]=>true
 |d::r=>aH d.key (last+1) 5&&di d.aq&&eb d.key r
def bU (l:List au):Bool:=eb (-1) l
def de (n:Nat) (f:Nat->Bool):Bool:=decide (∀i,i<n->f i=true)
def fP {n k:Nat} {f:Nat->Bool} (h:∀i,i<k->f i=true) (hk:n<=k):de n f=true:=by
 simp only[de,decide_eq_true_eq];exactλi hi=>h i om
def fY {n k:Nat} {f:Nat->Bool} (hk:k<n) (h:f k=false):de n f=false:=by
 simp only[de,decide_eq_false_iff_not];exactλhh=>by rw[hh k hk] at h;cases h
def gI {k:Nat} {f:Nat->Bool} (h:∀i,i<k->f i=true) (hf:f k=true):∀i,i<k+1->f i=true:=λi hi=>by
 by_cases e:i=k
 .subst e;exact hf
 exact h i om
def jm {n:Nat} {f:Nat->Bool}:de n f=true↔∀i,i<n->f i=true:=by simp[de]
def A3 {n m:Nat} {f g:Nat->Bool} (hn:n=m) (h:∀i,i<n->f i=g i):de n f=de m g:=by
 subst hn;rw[Bool.eq_iff_iff,jm,jm];exact⟨λk i hi=>by rw[<-h i hi];exact k i hi,λk i hi=>by rw[h i hi];exact k i hi⟩
def fl {α:Type} [Inhabited α] (aK:α->Bool) (less:α->α->Bool) (l:List α) (k:Nat):Bool:=aK (ab l k)&&(decide (k=0)||less (ab l (k-1)) (ab l k))
def uW {α:Type} [Inhabited α] (aK:α->Bool) (less:α->α->Bool) (l:List α) (k:Nat):
 (!aK (ab l k)||(decide (0<(k:Int))&&!less (ab l ((k:Int)-1).toNat) (ab l k)))=!fl aK less l k:=by
 rw[show((k:Int)-1).toNat=k-1 from by omega];unfold fl;rcases Nat.eq_zero_or_pos k with rfl|h
 .simp
 have h2:k≠0:=by omega
 have h3:0<k:=h;simp[h2,h3]
def Dx (t:Int) (l:List au):Bool:=de l.length λi=>decide ((ab l i).aq.time<t)
def dL (v:aE):Bool:=c7 v.key&&di v.aq&&aH v.val 0 9999&&fF v.ao&&aH v.call 1 99&&bU v.aQ&&Dx v.aq.time v.aQ
def aE.aU (v:aE):au:=⟨v.key,v.aq⟩
def fG (a b:aE):Bool:=eD a.aU b.aU
def cg (l:List aE):Bool:=decide (l.length<=80)&&de l.length (fl dL fG l)
def ka (d:au):Bool:=c7 d.key&&di d.aq
def fZ (l:List au):Bool:=decide (l.length<=80)&&de l.length (fl ka eD l)
def kb (n:Int):Bool:=cr n||aH n 10 11
def bI (w:ax):Bool:=
 aH w.kind 1 10&&kb w.aO&&kb w.to&&aH w.call 0 99&&c7 w.key&&lU w.aq&&aH w.val 0 9999&&bU w.aQ&&aH w.slot 0 2&&aH w.ba 0 9999&&
  cg w.ai&&cg w.waits&&fZ w.aD
def cL (key:Int):Int:=if c7 key then key*3/6 else-1
open Go
def dec (n:Int):List UInt8:=Lib.itoa n
def written (n:Int):Bool:=aH n 0 99999
def Ev.ints (e:Ev):List Int:=[e.kind,e.at_,e.ao,e.word,e.fe,e.slot,e.call,e.a,e.b,e.c,e.val]
def Ev.Fit (e:Ev):Prop:=∀x∈e.ints,kv x
def WM (ns:List Int):List UInt8:=(ns.map λn=>32::dec n).flatten
structure Form where
 word:List UInt8
 ev:Ev
 NB:List Nat
deriving DecidableEq,Inhabited
def Form.NC (f:Form) (e:Ev):List Int:=f.NB.map λo=>e.ints.getD o 0
def Form.made (f:Form) (e:Ev):List Int:=f.NB.foldl (λm o=>m.set o (e.ints.getD o 0)) f.ev.ints
def Form.write (f:Form) (e:Ev):List UInt8:=if(f.NC e).all written&&decide (f.made e=e.ints) then f.word++WM (f.NC e)++[10] else[]
end Go.Proofs.YtdanidpleofjgaaGreat
namespace Go.Proofs.YtdanidpleofjgaaGreat
open Go Go.RowKit
abbrev AV.u8 (n:Int):AV:=.val (.int .u8 n)
abbrev AV.byte (x:UInt8):AV:=.u8 (x.toNat:Int)
section
variable {P:Program} {H:List Own} {Γ:Env} {g:Bool} {d:Option Tmp} {y z z':Operand} {ty T T' E:TypeId} {p:String} {af:Array Edge} {gd:Option (Nat×Bool)} {n m:Nat} {zv:Value} {k k':List UInt8}
def Ho {m:Int} (hT:(P.underlying T).isSome=true) (WN:P.underlying T'=some (.int .i64)) (hy:At Γ g y (.u8 m)) (hb:g=true->0<=m/\m<=255):Ok P H Γ g ⟨d,.convert T T' y,ty,p,af,gd⟩ (.int m):=
 iA λI a w he hg=>by
  have h1:a.eval y=.int .u8 m:=hy I a he hg;obtain⟨b0,b1⟩:=hb hg;have h3:IntKind.i64.wrap m=m:=IntWalk.i64_in _ ⟨by omega,by omega⟩;simp only[execOp,h1];simp[go_sem,hT,WN,h3]
end
section
variable {P:Program} {c:Ctx} {I:Im} {H:List Own} {Γ:Env} {a:Act} {w:World} {Q:Exit->Act->World->Prop}
def oH (T:TypeId) (l:List AV):Value->Own
 |.pointer (some ⟨b,0,none⟩)=>Own.box b T l
 |_=>Own.gone
def AV.wN:AV:=⟨λ_ v=>∃b,v=.pointer (some ⟨b,0,none⟩),λ_ _ _ _ h=>h⟩
def gJ (P:Program) (c:Ctx) (H:List Own) (ops:Array Oper) (Q:Exit->Act->World->Prop) (tail:List Oper) (M:Act->List Own) (k:Nat) (Γ:Env) (os:List Oper):Prop:=
 ∃xs,yz P H ops Γ os xs/\∀I' a' w',St c I' (H++(M a'++made (λ_=>true) a' k os xs)) (sa Γ os (xs.map (·.1))) a' w'->wpList P ops Q tail a' w'
def gJ.nil {ops:Array Oper} {tail:List Oper} {M:Act->List Own} {k:Nat} (h:∀I' a' w',St c I' (H++M a') Γ a' w'->wpList P ops Q tail a' w'):gJ P c H ops Q tail M k Γ []:=
 ⟨[],trivial,λI' a' w' U=>h I' a' w' (by simpa[made,sa] using U)⟩
def gJ.cons {ops:Array Oper} {tail:List Oper} {M:Act->List Own} {k:Nat} {o:Oper} {os:List Oper} {x:AV} (h:pn P H ops (Γ.only (o.looksAt ops)) o x) (r:gJ P c H ops Q tail M (k+1) ((o.dst.getD 0,x)::Γ) os):gJ P c H ops Q tail M k Γ (o::os):=
 let⟨xs,h1,h2⟩:=r
 ⟨(x,none)::xs,⟨h.r,h1⟩,λI' a' w' U=>h2 I' a' w' (by simpa[made,sa] using U)⟩
def gJ.alloc {ops:Array Oper} {tail:List Oper} {M:Act->List Own} {k d:Nat} {os:List Oper} {T ty:TypeId} {p:String} {af:Array Edge} {ag:Bool} {n m:Nat} {zv:Value} {l:List AV} (hT:Ty P T ag n m zv) (hz:∀I,bO I l zv.cells.toList)
 (r:gJ P c H ops Q tail (λa=>M a++[oH T l (a.tmps.getD d undef)]) (k+1) ((d,AV.wN)::Γ) os):gJ P c H ops Q tail M k Γ (⟨some d,.alloc T,ty,p,af,none⟩::os):=by
 obtain⟨xs,h1,h2⟩:=r;refine⟨(AV.wN,some (oH T l))::xs,⟨?_,h1⟩,λI' a' w' U=>h2 I' a' w' (by simpa[made,sa] using U)⟩;intro base I a w K Q he hm hw kk;rw[if_pos (by simp[Region.wanted])];unfold Oper.wp;have AO:(zeroValue T).run P w=.ok zv w:=hT.zero;simp only[execOp,Instr.alloc,Sem.run_bind,AO,Result.andThen_ok,AM,Sem.run_pure,Oper.upon_value];refine kk _ I _ ⟨_,rfl⟩ (Step.alloc hm _) λf hf=>?_;cases hf;refine⟨⟨_,uN w _,hz I⟩,λb hb=>?_⟩;cases hb;exact⟨Nat.le_refl _,hm.none (Nat.le_refl _),by simp⟩
def St.ND {id:Nat} (pre tail:List Oper) (U:St c I H Γ a w) (hm:P.follows .mixedOrders=true) (gE:nP pre tail=true) (hd:(pre.all λo=>Nat.blt (o.dst.getD 0) c.n)=true)
 (run:gJ P c H (pre++tail).toArray Q tail (λ_=>[]) 0 Γ pre):(Code.region id (pre++tail).toArray true).wp P Q a w:=by
 obtain⟨xs,run,k⟩:=run;refine wp_region_any hm ?_;obtain⟨hlen,j0⟩:=yz.at (Γ0:=Γ) pre xs 0 [] (by simpa[fE] using run) (λe he=>by simp at he);have hf:∀i:Nat,(Array.replicate (pre++tail).length false).getD i false=false:=λi=>by
  rw[Array.getD_eq_getD_getElem?,Array.getElem?_replicate];split<;>rfl
 have WO:∀(a:Act),made (λi=>(Array.replicate (pre++tail).length false).getD i false) a 0 pre xs=[]:=λa=>by
  rw[uU (S':=λ_=>false) λi o x f _ _=>hf _];have key:∀(k:Nat) (os:List Oper) (xs:List (AV×Mk)),made (λ_=>false) a k os xs=[]:=by
   intro k os;induction os generalizing k with
   |nil=>intro xs;unfold made;rfl
   |cons o os ih=>
    intro xs
    cases xs with
    |nil=>simp[made]
    |cons x xs=>
     obtain⟨x,r⟩:=x
     cases r with
     |none=>simp only[made];exact ih _ _
     |some f=>simp only[made,cond_false];exact ih _ _
  exact key _ _ _
 have:=WI (P:=P) (c:=c) (H:=H) (Γ:=Γ) (Q:=Q) gE hlen (by simpa using hd) (λi o x ho hx=>by simpa using j0 i o x ho hx) (λI' a' w' h=>by
  rw[<-M3] at h;exact k I' a' w' (by simpa using h)) (pre++tail).length (Array.replicate (pre++tail).length false) I a {w with drawn:=w.drawn+1} bk
  (by simpa using List.length_filter_le _ (List.range (pre++tail).length)) (λi hi h=>by rw[hf] at h;cases h) (λi o ho hi=>by rw[hf] at hi;cases hi) (by
    have he:(fD 0 pre (xs.map (·.1))).reverse.filter (λe=>(Array.replicate (pre++tail).length false).getD e.1 false)=[]:=by
     rw[List.filter_eq_nil_iff];intro e _;rw[hf];simp
    rw[he,WO,List.append_nil];exact⟨⟨U.step.le,U.step.cU,U.step.dz,U.step.below.drew⟩,⟨λo ho=>⟨o.fe I I w _ (Im.le_refl I) (λ_ _=>rfl) (U.own.all o ho).1,(U.own.all o ho).2⟩,U.own.nodup⟩,U.env,U.size,U.defers⟩)
 simpa using this
def St.NF {id:Nat} {l:List Oper} (n:Nat) (U:St c I H Γ a w) (hm:P.follows .mixedOrders=true) (gE:nP (l.take n) (l.drop n)=true) (hd:((l.take n).all λo=>Nat.blt (o.dst.getD 0) c.n)=true)
 (run:gJ P c H l.toArray Q (l.drop n) (λ_=>[]) 0 Γ (l.take n)):(Code.region id l.toArray true).wp P Q a w:=by
 have e:l.take n++l.drop n=l:=List.take_append_drop n l;have:=U.ND (id:=id) (Q:=Q) (l.take n) (l.drop n) hm gE hd (by rw[e];exact run);rwa[e] at this
def St.uX {d:Nat} {T:TypeId} {l:List AV} (U:St c I (H++([]++[oH T l (a.tmps.getD d undef)])) Γ a w) (h:Env.get d Γ=some AV.wN):∃b,St c I (H++[Own.box b T l]) ((d,.val (.pointer (some ⟨b,0,none⟩)))::Γ) a w:=by
 obtain⟨b,hb⟩:∃b,a.tmps.getD d undef=.pointer (some ⟨b,0,none⟩):=U.env d _ h;rw[hb] at U;refine⟨b,U.step,by simpa[oH] using U.own,λt x e=>?_,U.size,U.defers⟩;simp only[Env.get] at e;cases nQ:Nat.beq d t with
 |true=>
  rw[nQ] at e;simp only[cond_true] at e;cases e
  obtain rfl:d=t:=Nat.eq_of_beq_eq_true nQ
  exact hb
 |false=>rw[nQ] at e;exact U.env t x (by simpa using e)
def mM (P:Program) (c:Ctx) (H:List Own) (ops:Array Oper) (Q:Exit->Act->World->Prop) (tail:List Oper) (Γ:Env) (os:List Oper):Prop:=∀k,gJ P c H ops Q tail (λ_=>[]) k Γ os
def mM.nil {ops:Array Oper} {tail:List Oper} (k:∀I' a' w',St c I' H Γ a' w'->wpList P ops Q tail a' w'):mM P c H ops Q tail Γ []:=λ_=>.nil λI a w U=>k I a w (by simpa using U)
def mM.cons {ops:Array Oper} {tail:List Oper} {o:Oper} {os:List Oper} {x:AV} (h:pn P H ops (Γ.only (o.looksAt ops)) o x) (k:mM P c H ops Q tail ((o.dst.getD 0,x)::Γ) os):mM P c H ops Q tail Γ (o::os):=λn=>.cons h (k (n+1))
def St.WQ {id:Nat} {l:List Oper} (n:Nat) (U:St c I H Γ a w) (hm:P.follows .mixedOrders=true) (gE:nP (l.take n) (l.drop n)=true) (hd:((l.take n).all λo=>Nat.blt (o.dst.getD 0) c.n)=true)
 (run:mM P c H l.toArray Q (l.drop n) Γ (l.take n)):(Code.region id l.toArray true).wp P Q a w:=U.NF n hm gE hd (run 0)
def j2 (P:Program) (c:Ctx) (H:List Own) (ops:Array Oper) (Q:Exit->Act->World->Prop) (Γ:Env) (os:List Oper):Prop:=mM P c H ops Q [] Γ os
def j2.nil {ops:Array Oper} (k:∀I' a' w',St c I' H Γ a' w'->Q .normal a' w'):j2 P c H ops Q Γ []:=mM.nil λI a w h=>wpList_nil (k I a w h)
def j2.cons {ops:Array Oper} {o:Oper} {os:List Oper} {x:AV} (h:pn P H ops (Γ.only (o.looksAt ops)) o x) (k:j2 P c H ops Q ((o.dst.getD 0,x)::Γ) os):j2 P c H ops Q Γ (o::os):=mM.cons h k
def St.WR {id:Nat} {l:List Oper} (U:St c I H Γ a w) (hm:P.follows .mixedOrders=true) (gE:nP l []=true) (hd:(l.all λo=>Nat.blt (o.dst.getD 0) c.n)=true)
 (run:j2 P c H l.toArray Q Γ l):(Code.region id l.toArray true).wp P Q a w:=by
 have:=U.ND (id:=id) (Q:=Q) l [] hm gE hd (by rw[List.append_nil];exact run 0);rwa[List.append_nil] at this
end
def lV {f:FuncId} {l:List AV}:(AV.fn f l).One:=λ_ _ ⟨_,e,_⟩=>by rw[e];rfl
def Fn.Dy {P:Program} {f:FuncId} {args:List AV} {res:AV} (h:Fn P f args res):kV P (AV.val (.func (.func f) #[] #[])) args res:=λI w v vs hm e ha=>
 ⟨f,#[],#[],e,h.1,by simpa using h.2 I w vs hm ha⟩
end Go.Proofs.YtdanidpleofjgaaGreat
