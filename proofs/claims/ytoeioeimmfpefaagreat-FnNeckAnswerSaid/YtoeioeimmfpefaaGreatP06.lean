/- Part 6: rules of the proofs, contracts of functions, plain facts. -/
import Derived.Test.YtoeioeimmfpefaaGreatP03
set_option linter.unusedVariables false
set_option linter.unusedSimpArgs false
namespace Go.Proofs.YtoeioeimmfpefaaGreat
open Go Go.RowKit
theorem bQ.perm {base:Nat→Prop} {I:Im} {w:World} {H H':List Own} (h:bQ base I w H) (hp:H.Perm H'):bQ base I w H':=
 ⟨fun o ho=>h.all o (hp.mem_iff.2 ho),(hp.filterMap Own.dH).nodup_iff.1 h.nodup⟩
theorem bQ.left {base:Nat→Prop} {I:Im} {w:World} {H K:List Own} (h:bQ base I w (H++K)):bQ base I w H:=
 ⟨fun o ho=>h.all o (List.mem_append_left _ ho),h.nodup.sublist ((List.sublist_append_left H K).filterMap _)⟩
abbrev Mk:=Option (Value→Own)
def xQ (P:Program) (H:List Own) (ops:Array Oper) (Γ:Env) (o:Oper) (x:AV) (r:Mk):Prop:=
 ∀(base:Nat→Prop) (I:Im) (a:Act) (w:World) (K:Act→World→Prop) (Q:Exit→Act→World→Prop),cF I a Γ→dr w I→bQ base I w H→
  (∀v I' w',x.h I' v→Step I w I' w'→(∀f,r=some f→(f v).ok I' w'∧∀b,(f v).dH=some b→w.heap.size≤b∧I' b=none∧b<w'.heap.size)→K (a.put o.dst v) w')→
  if Region.wanted o (yielded ops a.tmps) then o.wp P a w K Q else K (a.put o.dst undef) w
theorem lJ.r {P:Program} {H:List Own} {ops:Array Oper} {Γ:Env} {o:Oper} {x:AV} (h:lJ P H ops Γ o x):xQ P H ops Γ o x none:=
 fun base I a w K Q he hm hw k=>h base I a w K Q he hm hw fun v I' w' hx hs=>k v I' w' hx hs fun f e=>by cases e
def made (S:Nat→Bool) (a:Act):Nat→List Oper→List (AV×Mk)→List Own
 |k,o::os,(_,some f)::xs=>bif S k then f (a.tmps.getD (o.dst.getD 0) undef)::made S a (k+1) os xs else made S a (k+1) os xs
 |k,_::os,(_,none)::xs=>made S a (k+1) os xs
 |_,_,_=>[]
theorem A5 {S:Nat→Bool} {a a':Act}:∀{k:Nat} {os:List Oper} {xs:List (AV×Mk)},(∀(i:Nat) (o:Oper) (x:AV) (f:Value→Own),os[i]?=some o→xs[i]?=some (x,some f)→S (k+i)=true→a.tmps.getD (o.dst.getD 0) undef=a'.tmps.getD (o.dst.getD 0) undef)→made S a k os xs=made S a' k os xs
 |_,[],_,_=>by unfold made;rfl
 |_,_::_,[],_=>by simp[made]
 |k,o::os,(x,some f)::xs,h=>by
  have ih:=A5 (S:=S) (a:=a) (a':=a') (k:=k+1) (os:=os) (xs:=xs) fun i o' x' f' h1 h2 h3=>h (i+1) o' x' f' (by simpa using h1) (by simpa using h2) (by rw[show k+(i+1)=k+1+i from by omega];exact h3)
  simp only[made]
  cases hS:S k
  ·exact ih
  ·rw[h 0 o x f rfl rfl hS,ih]
 |k,o::os,(x,none)::xs,h=>by
  simp only[made]
  exact A5 fun i o' x' f' h1 h2 h3=>h (i+1) o' x' f' (by simpa using h1) (by simpa using h2) (by rw[show k+(i+1)=k+1+i from by omega];exact h3)
theorem qH {S S':Nat→Bool} {a:Act}:∀{k:Nat} {os:List Oper} {xs:List (AV×Mk)},(∀(i:Nat) (o:Oper) (x:AV) (f:Value→Own),os[i]?=some o→xs[i]?=some (x,some f)→S (k+i)=S' (k+i))→made S a k os xs=made S' a k os xs
 |_,[],_,_=>by unfold made;rfl
 |_,_::_,[],_=>by simp[made]
 |k,o::os,(x,some f)::xs,h=>by
  simp only[made]
  rw[show S k=S' k from h 0 o x f rfl rfl,qH (S:=S) (S':=S') (k:=k+1) (os:=os) (xs:=xs) fun i o' x' f' h1 h2=>by
   have:=h (i+1) o' x' f' (by simpa using h1) (by simpa using h2)
   rw[show k+1+i=k+(i+1) from by omega];exact this]
 |k,o::os,(x,none)::xs,h=>by
  simp only[made]
  exact qH fun i o' x' f' h1 h2=>by
   have:=h (i+1) o' x' f' (by simpa using h1) (by simpa using h2)
   rw[show k+1+i=k+(i+1) from by omega];exact this
theorem A6 {S:Nat→Bool} {a:Act}:∀{k i:Nat} {os:List Oper} {xs:List (AV×Mk)} {o:Oper} {x:AV} {f:Value→Own},os[i]?=some o→xs[i]?=some (x,some f)→S (k+i)=false→
 (f (a.tmps.getD (o.dst.getD 0) undef)::made S a k os xs).Perm (made (fun j=>if j=k+i then true else S j) a k os xs)
 |k,0,o'::os,(x',m)::xs,o,x,f,h1,h2,h3=>by
  simp at h1 h2;obtain⟨rfl,rfl⟩:=h2;subst h1
  simp only[made]
  have Nr:S k=false:=h3
  rw[Nr]
  simp only[Nat.add_zero,if_true,cond_true,cond_false]
  rw[qH (S:=S) (S':=fun j=>if j=k then true else S j) fun i o' x' f' _ _=>by rw[if_neg (by omega)]]
 |k,i+1,o'::os,(x',some f')::xs,o,x,f,h1,h2,h3=>by
  have ih:=A6 (S:=S) (a:=a) (k:=k+1) (i:=i) (os:=os) (xs:=xs) (o:=o) (x:=x) (f:=f) (by simpa using h1) (by simpa using h2) (by rw[show k+1+i=k+(i+1) from by omega];exact h3)
  rw[show k+1+i=k+(i+1) from by omega] at ih
  simp only[made]
  rw[if_neg (by omega)]
  cases S k
  ·exact ih
  ·exact(List.Perm.swap _ _ _).trans (ih.cons _)
 |k,i+1,o'::os,(x',none)::xs,o,x,f,h1,h2,h3=>by
  have ih:=A6 (S:=S) (a:=a) (k:=k+1) (i:=i) (os:=os) (xs:=xs) (o:=o) (x:=x) (f:=f) (by simpa using h1) (by simpa using h2) (by rw[show k+1+i=k+(i+1) from by omega];exact h3)
  rw[show k+1+i=k+(i+1) from by omega] at ih
  simp only[made]
  exact ih
 |_,_,[],_,_,_,_,h1,_,_=>by simp at h1
 |_,_,_::_,[],_,_,_,_,h2,_=>by simp at h2
def qI (P:Program) (H:List Own) (ops:Array Oper):Env→List Oper→List (AV×Mk)→Prop
 |_,[],[]=>True
 |Γ,o::os,x::xs=>xQ P H ops (Γ.only (o.looksAt ops)) o x.1 x.2∧qI P H ops ((o.dst.getD 0,x.1)::Γ) os xs
 |_,_,_=>False
theorem qI.at {P:Program} {H:List Own} {ops:Array Oper} {Γ0:Env}:∀(os:List Oper) (xs:List (AV×Mk)) (k:Nat) (done:List lL),qI P H ops (c5 done++Γ0) os xs→(∀e∈done,e.1<k)→
 os.length=xs.length∧∀i o x,os[i]?=some o→xs[i]?=some x→xQ P H ops ((c5 (((dj k os (xs.map (·.1))).reverse++done).filter fun e=>decide (e.1<k+i))++Γ0).only (o.looksAt ops)) o x.1 x.2
 |[],[],_,_,_,_=>⟨rfl,fun i o x h=>by simp at h⟩
 |o::os,x::xs,k,done,h,hd=>by
  obtain⟨h1,h2⟩:=h
  have ih:=qI.at os xs (k+1) ((k,o.dst.getD 0,x.1)::done) h2 (fun e he=>by
   rcases List.mem_cons.1 he with rfl|he
   ·simp
   ·have:=hd e he;omega)
  refine⟨by simp[ih.1],fun i o' x' ho hx=>?_⟩
  have vo:(dj k (o::os) ((x::xs).map (·.1))).reverse++done=(dj (k+1) os (xs.map (·.1))).reverse++((k,o.dst.getD 0,x.1)::done):=by simp[dj]
  rw[vo]
  cases i with
  |zero=>
   simp at ho hx;subst ho hx
   have hf:((dj (k+1) os (xs.map (·.1))).reverse++((k,o.dst.getD 0,x.1)::done)).filter (fun e=>decide (e.1<k+0))=done:=by
    rw[List.filter_append]
    have e1:(dj (k+1) os (xs.map (·.1))).reverse.filter (fun e=>decide (e.1<k+0))=[]:=by
     rw[List.filter_eq_nil_iff]
     intro e he
     have:=(vn (k+1) os (xs.map (·.1))).2 e (List.mem_reverse.1 he)
     simp;omega
    rw[e1,List.filter_cons]
    simp only[Nat.add_zero,Nat.lt_irrefl,decide_false,Bool.false_eq_true,if_false,List.nil_append]
    rw[List.filter_eq_self]
    intro e he
    simpa using hd e he
   rw[hf];exact h1
  |succ i=>
   have:=ih.2 i o' x' (by simpa using ho) (by simpa using hx)
   rw[show k+(i+1)=k+1+i from by omega]
   exact this
 |[],_::_,_,_,h,_=>h.elim
 |_::_,[],_,_,h,_=>h.elim
def lR (pre tail:List Oper):Bool:=
 let l:=pre++tail
 let C:=fy [] l
 let p:=pre.length
 (l.zipIdx.all fun(o,i)=>(o.after.toList.all fun e=>!Region.binds .any e||Nat.blt e.on i))&&
 (pre.zipIdx.all fun(o,i)=>o.dst.isSome&&
   ((slotsOf l.toArray o).all fun t=>pre.zipIdx.all fun(o',j)=>Nat.beq i j||!(o'.dst==some t)||(if j<i then(C.getD i []).contains j else(C.getD j []).contains i))&&
   (pre.zipIdx.all fun(o',j)=>Nat.beq i j||!(o'.dst==o.dst)))&&
 (List.range tail.length).all fun i=>(List.range (p+i)).all fun j=>(C.getD (p+i) []).contains j
theorem A7 {pre tail:List Oper} (h:lR pre tail=true) {i:Nat} {o:Oper} (ho:(pre++tail)[i]?=some o):∀e∈o.after.toList,Region.binds .any e=true→e.on<i:=fun e he hb=>by
 simp only[lR,List.all_eq_true,Bool.and_eq_true] at h
 have hm:(o,i)∈(pre++tail).zipIdx:=by rw[List.mem_zipIdx_iff_getElem?];exact ho
 have:=h.1.1 _ hm e he
 rw[hb] at this
 simpa using this
theorem A8 {pre tail:List Oper} (h:lR pre tail=true) {i:Nat} {o:Oper} (ho:pre[i]?=some o):
 (∃d,o.dst=some d)∧(∀t∈slotsOf (pre++tail).toArray o,∀j o',pre[j]?=some o'→i≠j→o'.dst=some t→if j<i then j∈(fy [] (pre++tail)).getD i [] else i∈(fy [] (pre++tail)).getD j [])∧
 ∀j o',pre[j]?=some o'→i≠j→o'.dst≠o.dst:=by
 simp only[lR,List.all_eq_true,Bool.and_eq_true] at h
 have hm:(o,i)∈pre.zipIdx:=by rw[List.mem_zipIdx_iff_getElem?];exact ho
 obtain⟨⟨h1,h3⟩,h4⟩:=h.1.2 _ hm
 have hb:∀j,i≠j→Nat.beq i j=false:=fun j bn=>by
  cases hb:Nat.beq i j with
  |false=>rfl
  |true=>exact absurd (Nat.eq_of_beq_eq_true hb) bn
 refine⟨Option.isSome_iff_exists.1 h1,fun t ht j o' eR bn hd=>?_,fun j o' eR bn hd=>?_⟩
 ·have j5:(o',j)∈pre.zipIdx:=by rw[List.mem_zipIdx_iff_getElem?];exact eR
  have:=h3 t ht _ j5
  simp only[hb j bn,hd,Bool.false_or] at this
  have h5:(!(some t==some t))=false:=by simp
  rw[h5,Bool.false_or] at this
  split
  ·rename_i bJ;rw[if_pos bJ] at this;simpa using this
  ·rename_i bJ;rw[if_neg bJ] at this;simpa using this
 ·have j5:(o',j)∈pre.zipIdx:=by rw[List.mem_zipIdx_iff_getElem?];exact eR
  have:=h4 _ j5
  simp only[hb j bn,hd,Bool.false_or] at this
  simp at this
theorem FJ {pre tail:List Oper} (h:lR pre tail=true) {i j:Nat} (hi:pre.length≤i) (fA:i<(pre++tail).length) (hj:j<i):j∈(fy [] (pre++tail)).getD i []:=by
 simp only[lR,List.all_eq_true,Bool.and_eq_true] at h
 have:=h.2 (i-pre.length) (by simp at fA⊢;omega) j (by simp;omega)
 rw[show pre.length+(i-pre.length)=i from by omega] at this
 simpa using this
section
variable {P:Program} {c:Ctx} {I:Im} {H:List Own} {Γ:Env} {a:Act} {w:World} {Q:Exit→Act→World→Prop}
theorem om {listed:Array Bool} {i:Nat} (h:i<listed.size):listed.getD i true=listed.getD i false:=by simp[h]
theorem FK {pre tail:List Oper} (dx:lR pre tail=true) {listed:Array Bool} (cr:listed.size=(pre++tail).length)
 (bB:∀(i:Nat) (o:Oper),(pre++tail)[i]?=some o→listed.getD i false=true→∀e∈o.after.toList,Region.binds .any e=true→listed.getD e.on false=true) {i:Nat} {o:Oper} (ho:(pre++tail)[i]?=some o)
 (h3:∀e∈o.after.toList,Region.binds .any e=true→listed.getD e.on false=true):∀j,j≠i→j∈(fy [] (pre++tail)).getD i []→listed.getD j false=true:=fun j oh hj=>by
 have bJ:i<(pre++tail).length:=(List.getElem?_eq_some_iff.1 ho).1
 have dA:∀j,(listed.setIfInBounds i true).getD j false=if j=i then true else listed.getD j false:=fun j=>tG (by omega) false
 have rQ:=pB (S:=fun j=>(listed.setIfInBounds i true).getD j false) (pre++tail) [] (fun i k hk=>by simp at hk) (fun i' o' eR jN e he hb=>by
  have fA:(listed.setIfInBounds i true).getD i' false=true:=by simpa using jN
  show(listed.setIfInBounds i true).getD e.on false=true
  rw[dA] at fA⊢
  split
  ·rfl
  ·split at fA
   ·rename_i pD;subst pD
    rw[ho] at eR;cases eR
    exact h3 e he hb
   ·exact bB i' o' eR fA e he hb)
 have h':=rQ i j hj (by show(listed.setIfInBounds i true).getD i false=true;rw[dA];simp)
 have rR:(listed.setIfInBounds i true).getD j false=true:=h'
 rwa[dA,if_neg oh] at rR
theorem FL {pre tail:List Oper} (dx:lR pre tail=true):∀(m j:Nat) (listed:Array Bool) (fuel:Nat) (a:Act) (w:World),(pre++tail).length-j=m→pre.length≤j→j≤(pre++tail).length→m≤fuel→listed.size=(pre++tail).length→
 (∀i,i<(pre++tail).length→(listed.getD i false=true↔i<j))→wpList P (pre++tail).toArray Q ((pre++tail).drop j) a w→wpAny P .any (pre++tail).toArray Q fuel listed a w:=by
 intro m
 induction m with
 |zero=>
  intro j listed fuel a w hm hp hj hf cr hl h
  have A9:j=(pre++tail).length:=by omega
  have lS:(pre++tail).drop j=[]:=by rw[A9];simp
  rw[lS] at h
  have rO:Region.ready .any (pre++tail).toArray listed=[]:=by
   rw[List.eq_nil_iff_forall_not_mem]
   intro i hi
   obtain⟨h1,o,h2,_⟩:=mem_ready.1 hi
   have bJ:i<(pre++tail).length:=by have:=(Array.getElem?_eq_some_iff.1 h2).1;simpa using this
   have h4:=(hl i bJ).2 (by omega)
   have h5:listed.getD i true=listed.getD i false:=om (by omega)
   rw[h5,h4] at h1;cases h1
  cases fuel with
  |zero=>exact⟨rO,h⟩
  |succ fuel=>exact⟨fun _=>h,fun i hi=>by rw[rO] at hi;cases hi⟩
 |succ m ih=>
  intro j listed fuel a w hm hp hj hf cr hl h
  have jy:j<(pre++tail).length:=by omega
  cases fuel with
  |zero=>omega
  |succ fuel=>
   have bB:∀(i:Nat) (o:Oper),(pre++tail)[i]?=some o→listed.getD i false=true→∀e∈o.after.toList,Region.binds .any e=true→listed.getD e.on false=true:=fun i o ho hi e he hb=>by
    have bJ:i<(pre++tail).length:=(List.getElem?_eq_some_iff.1 ho).1
    have h1:=(hl i bJ).1 hi
    have h2:=A7 dx ho e he hb
    exact(hl e.on (by omega)).2 (by omega)
   have hd:∀i,i<(pre++tail).length→listed.getD i true=listed.getD i false:=fun i hi=>om (by omega)
   have Ns:∀i∈Region.ready .any (pre++tail).toArray listed,i=j:=fun i hi=>by
    obtain⟨h1,o,h2,h3⟩:=mem_ready.1 hi
    have bJ:i<(pre++tail).length:=by have:=(Array.getElem?_eq_some_iff.1 h2).1;simpa using this
    have ho:(pre++tail)[i]?=some o:=by simpa using h2
    have mF:¬i<j:=fun h'=>by rw[hd i bJ,(hl i bJ).2 h'] at h1;cases h1
    by_cases gM:i=j
    ·exact gM
    ·have hb:=FK dx cr bB ho (fun e he hb=>h3 e (by simpa using he) hb) j (fun e=>gM e.symm) (FJ dx (by omega) bJ (by omega))
     have:=(hl j jy).1 hb
     omega
   refine⟨fun hr=>?_,fun i hi=>?_⟩
   ·exfalso
    have:j∈Region.ready .any (pre++tail).toArray listed:=by
     refine mem_ready.2 ⟨?_,(pre++tail)[j],by simp[jy],fun e he hb=>?_⟩
     ·rw[hd j jy]
      cases hb:listed.getD j false with
      |false=>rfl
      |true=>have:=(hl j jy).1 hb;omega
     ·have h2:=A7 dx (i:=j) (o:=(pre++tail)[j]) (by simp[jy]) e (by simpa using he) hb
      exact(hl e.on (by omega)).2 h2
    rw[hr] at this;cases this
   ·obtain rfl:=Ns i hi
    have lS:(pre++tail).drop i=(pre++tail)[i]::(pre++tail).drop (i+1):=List.drop_eq_getElem_cons jy
    rw[lS] at h
    have FM:∀a w,wpList P (pre++tail).toArray Q ((pre++tail).drop (i+1)) a w→wpAny P .any (pre++tail).toArray Q fuel (listed.setIfInBounds i true) a w:=fun a w h'=>
     ih (i+1) (listed.setIfInBounds i true) fuel a w (by omega) (by omega) (by omega) (by omega) (by simpa using cr) (fun k hk=>by
      rw[tG (by omega)]
      split
      ·rename_i e;subst e;simp
      ·rename_i e;rw[hl k hk];omega) h'
    unfold wpOp
    have hg:(pre++tail).toArray[i]?=some (pre++tail)[i]:=by simp[jy]
    simp only[hg]
    unfold wpList at h
    by_cases hw:Region.wanted (pre++tail)[i] (yielded (pre++tail).toArray a.tmps)=true
    ·rw[if_pos hw] at h⊢;exact h.imp (Oper.wp_mono FM) id
    ·rw[if_neg hw] at h⊢;exact FM _ _ h
theorem FN {pre tail:List Oper} {xs:List (AV×Mk)} (dx:lR pre tail=true) (hlen:pre.length=xs.length) (hd:∀o∈pre,Nat.blt (o.dst.getD 0) c.n=true)
 (run:∀i o x,pre[i]?=some o→xs[i]?=some x→xQ P H (pre++tail).toArray ((c5 ((dj 0 pre (xs.map (·.1))).reverse.filter fun e=>decide (e.1<i))++Γ).only (o.looksAt (pre++tail).toArray)) o x.1 x.2)
 (k:∀I' a' w',St c I' (H++made (fun _=>true) a' 0 pre xs) (c5 (dj 0 pre (xs.map (·.1))).reverse++Γ) a' w'→wpList P (pre++tail).toArray Q tail a' w'):
 ∀(fuel:Nat) (listed:Array Bool) (I:Im) (a:Act) (w:World),listed.size=(pre++tail).length→((List.range (pre++tail).length).filter fun i=>!listed.getD i false).length≤fuel→
  (∀i,i<(pre++tail).length→listed.getD i false=true→i<pre.length)→
  (∀(i:Nat) (o:Oper),(pre++tail)[i]?=some o→listed.getD i false=true→∀e∈o.after.toList,Region.binds .any e=true→listed.getD e.on false=true)→
  St c I (H++made (fun i=>listed.getD i false) a 0 pre xs) (c5 ((dj 0 pre (xs.map (·.1))).reverse.filter fun e=>listed.getD e.1 false)++Γ) a w→wpAny P .any (pre++tail).toArray Q fuel listed a w:=by
 have hL:(dj 0 pre (xs.map (·.1))).reverse.Pairwise (fun e f=>f.1<e.1):=by
  rw[List.pairwise_reverse];exact(vn 0 pre (xs.map (·.1))).1
 have jh:∀e∈(dj 0 pre (xs.map (·.1))).reverse,∃o',pre[e.1]?=some o'∧o'.dst=some e.2.1:=fun e he=>by
  obtain⟨j,o',g1,_,g3,g4⟩:=xE (List.mem_reverse.1 he)
  obtain⟨d',gK⟩:=(A8 dx g1).1
  refine⟨o',by rw[g3,Nat.zero_add];exact g1,?_⟩
  rw[g4,gK];rfl
 intro fuel
 induction fuel with
 |zero=>
  intro listed I a w cr hf vC bB hs
  have h0:∀i,i<(pre++tail).length→listed.getD i false=true:=fun i hi=>by
   have:(List.range (pre++tail).length).filter (fun i=>!listed.getD i false)=[]:=List.eq_nil_of_length_eq_zero (by omega)
   rw[List.filter_eq_nil_iff] at this
   simpa using this i (by simpa using hi)
  have FO:tail=[]:=by
   rcases tail with _|⟨t,ts⟩
   ·rfl
   ·have:=vC pre.length (by simp) (h0 pre.length (by simp));omega
  have e1:(dj 0 pre (xs.map (·.1))).reverse.filter (fun e=>listed.getD e.1 false)=(dj 0 pre (xs.map (·.1))).reverse:=by
   rw[List.filter_eq_self]
   intro e he
   obtain⟨o',h1,_⟩:=jh e he
   have:=(List.getElem?_eq_some_iff.1 h1).1
   exact h0 e.1 (by simp;omega)
  have e2:made (fun i=>listed.getD i false) a 0 pre xs=made (fun _=>true) a 0 pre xs:=qH fun i o x f h1 h2=>by
   have:=(List.getElem?_eq_some_iff.1 h1).1
   rw[Nat.zero_add];exact h0 i (by simp;omega)
  rw[e1,e2] at hs
  have hw:=k I a w hs
  exact FL dx 0 (pre++tail).length listed 0 a w (by omega) (by simp) (by omega) (by omega) cr (fun i hi=>⟨fun _=>hi,fun _=>h0 i hi⟩) (by subst FO;simpa using hw)
 |succ fuel ih=>
  intro listed I a w cr hf vC bB hs
  by_cases aT:∀i,i<pre.length→listed.getD i false=true
  ·have e1:(dj 0 pre (xs.map (·.1))).reverse.filter (fun e=>listed.getD e.1 false)=(dj 0 pre (xs.map (·.1))).reverse:=by
    rw[List.filter_eq_self]
    intro e he
    obtain⟨o',h1,_⟩:=jh e he
    exact aT e.1 (List.getElem?_eq_some_iff.1 h1).1
   have e2:made (fun i=>listed.getD i false) a 0 pre xs=made (fun _=>true) a 0 pre xs:=qH fun i o x f h1 h2=>by
    rw[Nat.zero_add];exact aT i (List.getElem?_eq_some_iff.1 h1).1
   rw[e1,e2] at hs
   have Nt:(pre++tail).length-pre.length≤fuel+1:=by
    have h1:((List.range (pre++tail).length).filter fun i=>!listed.getD i false)=(List.range (pre++tail).length).filter fun i=>decide (pre.length≤i):=by
     apply List.filter_congr
     intro i hi
     have jN:i<(pre++tail).length:=by simpa using hi
     cases hb:listed.getD i false with
     |true=>have:=vC i jN hb;simp;omega
     |false=>
      have:¬i<pre.length:=fun h=>by rw[aT i h] at hb;cases hb
      simp;omega
    rw[h1] at hf
    have h2:((List.range (pre++tail).length).filter fun i=>decide (pre.length≤i)).length=(pre++tail).length-pre.length:=by
     have:(List.range (pre++tail).length)=List.range pre.length++(List.range tail.length).map (pre.length+·):=by
      rw[List.length_append,List.range_add]
     rw[this,List.filter_append]
     have a1:(List.range pre.length).filter (fun i=>decide (pre.length≤i))=[]:=by
      rw[List.filter_eq_nil_iff];intro i hi;simp at hi⊢;omega
     have a2:((List.range tail.length).map (pre.length+·)).filter (fun i=>decide (pre.length≤i))=(List.range tail.length).map (pre.length+·):=by
      rw[List.filter_eq_self];intro i hi;simp at hi⊢;omega
     rw[a1,a2];simp
    omega
   refine FL dx _ pre.length listed (fuel+1) a w rfl (by omega) (by simp) Nt cr (fun i hi=>⟨vC i hi,aT i⟩) ?_
   rw[List.drop_left]
   exact k I a w hs
  ·have Ba:∃i0,i0<pre.length∧listed.getD i0 false=false:=by
    refine Classical.byContradiction fun hn=>aT fun i hi=>?_
    cases hb:listed.getD i false with
    |true=>rfl
    |false=>exact absurd ⟨i,hi,hb⟩ hn
   obtain⟨i0,xR,xS⟩:=Ba
   refine⟨fun hr=>?_,fun i hi=>?_⟩
   ·exfalso
    have:∀i,i<(pre++tail).length→listed.getD i false=true:=fun i=>by
     induction i using Nat.strongRecOn with
     |_ i rN=>
      intro hi
      cases hl:listed.getD i false with
      |true=>rfl
      |false=>
       have nq:i∈Region.ready .any (pre++tail).toArray listed:=by
        refine mem_ready.2 ⟨by rw[om (by omega)];exact hl,(pre++tail)[i],by simp[hi],fun e he hb=>?_⟩
        have bJ:=A7 dx (i:=i) (o:=(pre++tail)[i]) (by simp[hi]) e (by simpa using he) hb
        exact rN e.on bJ (by omega)
       rw[hr] at nq;cases nq
    rw[this i0 (by simp;omega)] at xS;cases xS
   ·obtain⟨h1,o,h2,h3⟩:=mem_ready.1 hi
    have bJ:i<(pre++tail).length:=by have:=(Array.getElem?_eq_some_iff.1 h2).1;simpa using this
    have gf:(pre++tail)[i]?=some o:=by simpa using h2
    rw[om (by omega)] at h1
    have aI:=FK dx cr bB gf (fun e he hb=>h3 e (by simpa using he) hb)
    have FP:i<pre.length:=by
     refine Classical.byContradiction fun hn=>?_
     have:=aI i0 (by omega) (FJ dx (by omega) bJ (by omega))
     rw[this] at xS;cases xS
    have ho:pre[i]?=some o:=by rw[List.getElem?_append_left FP] at gf;exact gf
    obtain⟨⟨d,lM⟩,oe,FQ⟩:=A8 dx ho
    have rP:=pB (S:=fun j=>listed.getD j false) (pre++tail) [] (fun i k hk=>by simp at hk) (fun i o ho hi e he hb=>bB i o ho (by simpa using hi) e he hb)
    have j6:∀j,i∈(fy [] (pre++tail)).getD j []→listed.getD j false=false:=fun j hj=>by
     cases hb:listed.getD j false with
     |false=>rfl
     |true=>rw[rP j i hj hb] at h1;cases h1
    have dA:∀j,(listed.setIfInBounds i true).getD j false=if j=i then true else listed.getD j false:=fun j=>tG (by omega) false
    have og:∀(i':Nat) (o':Oper),(pre++tail)[i']?=some o'→(listed.setIfInBounds i true).getD i' false=true→∀e∈o'.after.toList,Region.binds .any e=true→(listed.setIfInBounds i true).getD e.on false=true:=fun i' o' eR fA e he hb=>by
     rw[dA] at fA⊢
     split
     ·rfl
     ·split at fA
      ·rename_i pD;subst pD
       rw[gf] at eR;cases eR
       exact h3 e (by simpa using he) hb
      ·exact bB i' o' eR fA e he hb
    have k0:i<xs.length:=by omega
    have jg:xs[i]?=some xs[i]:=by simp[k0]
    generalize xs[i]=x at jg
    obtain⟨x,r⟩:=x
    have Nu:(xs.map (·.1))[i]?=some x:=by simp[jg]
    have eS:=run i o (x,r) ho jg
    have rS:cF I a ((c5 ((dj 0 pre (xs.map (·.1))).reverse.filter fun e=>decide (e.1<i))++Γ).only (o.looksAt (pre++tail).toArray)):=fun t y e=>by
     obtain⟨g1,g2⟩:=Env.vi e
     have ht:t∈slotsOf (pre++tail).toArray o:=by
      unfold slotsOf;rw[List.mem_append];exact .inr (by simpa using g2)
     rw[pC (q:=fun e=>listed.getD e.1 false) _ (fun e he ig=>?_)] at g1
     ·exact hs.env t y g1
     ·obtain⟨o',k1,k2⟩:=jh e he
      by_cases kW:e.1=i
      ·rw[kW,h1];simp
      ·have:=oe t ht e.1 o' k1 (fun h=>kW h.symm) (by rw[k2,ig])
       split at this
       ·rename_i fO;rw[aI e.1 kW this];simpa using fO
       ·rename_i fO;rw[j6 e.1 this];simpa using fO
    have rT:((List.range (pre++tail).length).filter fun j=>!(listed.setIfInBounds i true).getD j false).length≤fuel:=by
     have:=filter_lt (l:=List.range (pre++tail).length) (p:=fun j=>!listed.getD j false) (q:=fun j=>!(listed.setIfInBounds i true).getD j false) (i:=i) (by simpa using bJ) (by simp only[h1];rfl) (by simp only[dA];simp) (fun j hj=>by
      simp only[dA] at hj;split at hj
      ·cases hj
      ·exact hj)
     omega
    have Nv:∀j,j<(pre++tail).length→(listed.setIfInBounds i true).getD j false=true→j<pre.length:=fun j hj hb=>by
     rw[dA] at hb;split at hb
     ·rename_i e;subst e;exact FP
     ·exact vC j hj hb
    have mB:(i,d,x)∈(dj 0 pre (xs.map (·.1))).reverse:=by
     rw[List.mem_reverse]
     have:=Fg (k:=0) ho Nu
     rwa[lM,Nat.zero_add] at this
    unfold wpOp
    simp only[h2]
    have ga:=eS c.own I a w (wpAny P .any (pre++tail).toArray Q fuel (listed.setIfInBounds i true)) Q rS hs.step.cE hs.own.left (fun v I' w' hv st Nw=>by
     refine ih (listed.setIfInBounds i true) I' _ w' (by simpa using cr) rT Nv og ?_
     rw[lM]
     have nr:d<c.n:=by
      have:=hd o (List.mem_of_getElem? ho)
      rw[lM] at this;simpa using this
     have jO:=hs.put (d:=d) (x:=x) (v:=v) nr hv st
     have ld:made (fun i=>listed.getD i false) a 0 pre xs=made (fun i=>listed.getD i false) (a.put (some d) v) 0 pre xs:=A5 fun j o' x' f' g1 g2 g3=>by
      have oh:j≠i:=fun e=>by subst e;rw[Nat.zero_add,h1] at g3;cases g3
      have bn:=FQ j o' g1 (fun e=>oh e.symm)
      obtain⟨d',gK⟩:=(A8 dx g1).1
      have xT:d≠d':=fun e=>bn (by rw[gK,lM,e])
      rw[gK]
      simp[Act.put,xT]
     have ep:bQ c.own I' w' (H++made (fun j=>(listed.setIfInBounds i true).getD j false) (a.put (some d) v) 0 pre xs):=by
      have h6:=jO.own
      rw[ld] at h6
      cases r with
      |none=>
       have e3:made (fun j=>(listed.setIfInBounds i true).getD j false) (a.put (some d) v) 0 pre xs=made (fun i=>listed.getD i false) (a.put (some d) v) 0 pre xs:=qH fun j o' x' f' g1 g2=>by
        have oh:j≠i:=fun e=>by subst e;rw[jg] at g2;cases g2
        rw[Nat.zero_add,dA,if_neg oh]
       rw[e3];exact h6
      |some f=>
       obtain⟨al,iK⟩:=Nw f rfl
       have AX:(a.put (some d) v).tmps.getD d undef=v:=by simp[Act.put,hs.size,nr]
       have hp:=A6 (S:=fun i=>listed.getD i false) (a:=a.put (some d) v) (k:=0) ho jg (by rw[Nat.zero_add];exact h1)
       rw[lM] at hp
       simp only[Option.getD_some,AX] at hp
       have e4:made (fun j=>if j=0+i then true else listed.getD j false) (a.put (some d) v) 0 pre xs=made (fun j=>(listed.setIfInBounds i true).getD j false) (a.put (some d) v) 0 pre xs:=qH fun j o' x' f' g1 g2=>by
        rw[dA];simp
       rw[e4] at hp
       have h7:bQ c.own I' w' (f v::(H++made (fun i=>listed.getD i false) (a.put (some d) v) 0 pre xs)):=by
        refine⟨fun o ho=>?_,?_⟩
        ·rcases List.mem_cons.1 ho with rfl|ho
         ·exact⟨al,fun b e=>by
           obtain⟨q1,q2,q3⟩:=iK b e
           exact⟨.inl (Nat.le_trans hs.step.below.size q1),q2,q3⟩⟩
         ·exact h6.all o ho
        ·rw[List.filterMap_cons]
         cases hb:(f v).dH with
         |none=>exact h6.nodup
         |some b=>
          refine List.nodup_cons.2 ⟨fun hm=>?_,h6.nodup⟩
          obtain⟨y,hy,e⟩:=List.mem_filterMap.1 hm
          rw[←ld] at hy
          have:=((hs.own.all y hy).2 b e).2.2
          have:=(iK b hb).1
          omega
       exact h7.perm ((List.perm_middle.symm).trans (hp.append_left H))
     refine⟨jO.step,ep,?_,jO.size,jO.defers⟩
     intro t y e
     refine jO.env t y ?_
     by_cases ji:t=d
     ·subst ji
      rw[vm (i:=i) (x:=x) _ hL mB (by simp only[dA];simp) (fun e he hp ig=>?_)] at e
      ·rw[←e];simp[Env.get]
      ·obtain⟨o',k1,k2⟩:=jh e he
       by_cases hle:e.1≤i
       ·exact hle
       ·have bn:e.1≠i:=by omega
        exact absurd (by rw[k2,ig,lM]) (FQ e.1 o' k1 (fun h=>bn h.symm))
     ·rw[pC (q:=fun e=>listed.getD e.1 false) _ (fun e he ig=>?_)] at e
      ·have hb:Nat.beq d t=false:=by
        cases hb:Nat.beq d t with
        |false=>rfl
        |true=>exact absurd (Nat.eq_of_beq_eq_true hb).symm ji
       simp only[Env.get,hb,cond_false];exact e
      ·obtain⟨o',k1,k2⟩:=jh e he
       have bn:e.1≠i:=fun h=>by
        rw[h,ho] at k1;cases k1
        rw[lM] at k2;cases k2
        exact ji ig.symm
       simp only[dA,if_neg bn])
    by_cases hw:Region.wanted o (yielded (pre++tail).toArray a.tmps)=true
    ·rw[if_pos hw] at ga⊢;exact .inl ga
    ·rw[if_neg hw] at ga⊢;exact ga
end
end Go.Proofs.YtoeioeimmfpefaaGreat
