/- Part 4: rules of the proofs. -/
import Derived.Test.YtldbakcpcfdlaaaGreatP03
set_option linter.all false
namespace Go.Proofs.YtldbakcpcfdlaaaGreat
open Go Go.RowKit
structure EA where
 tmps:Array Value
 g:Nat->Own
abbrev ea (a:Act) (γ:Nat->Own):EA:=⟨a.tmps,γ⟩
structure pD where
 k:Nat
 aQ:List Nat
 f:EA->Own
structure Rec where
 x:AV
 T:List Nat
 u:Option pD
def pD.fit (u:pD):Prop:=∀a a':EA,(∀d∈u.aQ,a.tmps.getD d undef=a'.tmps.getD d undef/\a.g d=a'.g d)->u.f a=u.f a'
def n5 (d:Option Nat) (x:AV) (Γ:Env):Env:=match d with|some d=>(d,x)::Γ|none=>Γ
def mO (H:List (EA->Own)):Option pD->List (EA->Own)
 |none=>H
 |some u=>H.set u.k u.f
def cellAt (S:Nat->Bool) (k:Nat):Nat->List Rec->(EA->Own)->EA->Own
 |_,[],f=>f
 |i,r::rs,f=>cellAt S k (i+1) rs (match r.u with|none=>f|some u=>bif S i&&Nat.beq u.k k then u.f else f)
def iU (S:Nat->Bool) (i:Nat) (rs:List Rec):Nat->List (EA->Own)->List (EA->Own)
 |_,[]=>[]
 |k,f::fs=>cellAt S k i rs f::iU S i rs (k+1) fs
def fq (T:List Nat) (a:EA) (F:Nat->Own):Nat->List (EA->Own)->List Own
 |_,[]=>[]
 |k,f::fs=>(bif T.contains k then f a else F k)::fq T a F (k+1) fs
def mr (a:EA) (H:List (EA->Own)):List Own:=H.map λf=>f a
def pE {S:Nat->Bool} {i:Nat} {rs:List Rec}:∀(k:Nat) (H:List (EA->Own)) (j:Nat),(iU S i rs k H)[j]?=(H[j]?).map (cellAt S (k+j) i rs)
 |_,[],j=>by simp[iU]
 |k,f::fs,0=>by simp[iU]
 |k,f::fs,j+1=>by
  simp only[iU,List.getElem?_cons_succ];rw[pE (k+1) fs j];have e:k+1+j=k+(j+1):=by omega
  rw[e]
def x4 {T:List Nat} {a:EA} {F:Nat->Own}:∀(k:Nat) (H:List (EA->Own)) (j:Nat),(fq T a F k H)[j]?=(H[j]?).map (λf=>bif T.contains (k+j) then f a else F (k+j))
 |_,[],j=>by simp[fq]
 |k,f::fs,0=>by simp[fq]
 |k,f::fs,j+1=>by
  simp only[fq,List.getElem?_cons_succ];rw[x4 (k+1) fs j];have e:k+1+j=k+(j+1):=by omega
  rw[e]
def E9 {S:Nat->Bool} {i:Nat} {rs:List Rec}:∀(k:Nat) (H:List (EA->Own)),(iU S i rs k H).length=H.length
 |_,[]=>rfl
 |k,f::fs=>by simp[iU,E9 (k+1) fs]
def Cg {S S':Nat->Bool} {k:Nat}:∀(i:Nat) (rs:List Rec) (f:EA->Own),(∀(j:Nat) (r:Rec) (u:pD),rs[j]?=some r->r.u=some u->u.k=k->S (i+j)=S' (i+j))->cellAt S k i rs f=cellAt S' k i rs f
 |_,[],_,_=>rfl
 |i,r::rs,f,h=>by
  have ih:=λf=>Cg (S:=S) (S':=S') (k:=k) (i+1) rs f λj r' u h1 h2 h3=>by
   have:=h (j+1) r' u (by simpa using h1) h2 h3;have e:i+1+j=i+(j+1):=by omega
   rw[e];exact this
  simp only[cellAt];rw[ih];cases hu:r.u with
  |none=>rfl
  |some u=>
   simp only[]
   cases hb:Nat.beq u.k k with
   |false=>simp
   |true=>rw[show S i=S' i from h 0 r u rfl hu (Nat.eq_of_beq_eq_true hb)]
def Je {S:Nat->Bool} {k:Nat}:∀(i:Nat) (rs:List Rec) (f:EA->Own),(∀j,i<=j->S j=false)->cellAt S k i rs f=f
 |_,[],_,_=>rfl
 |i,r::rs,f,h=>by
  simp only[cellAt];rw[Je (i+1) rs _ λj hj=>h j om];cases r.u with
  |none=>rfl
  |some u=>simp[h i (Nat.le_refl _)]
def Qc {S:Nat->Bool} {k:Nat}:∀(i:Nat) (rs:List Rec) (f:EA->Own) (j:Nat) (r:Rec) (u:pD),rs[j]?=some r->r.u=some u->u.k=k->S (i+j)=true->
 (∀(j':Nat) (r':Rec) (u':pD),rs[j']?=some r'->r'.u=some u'->u'.k=k->j<j'->S (i+j')=false)->cellAt S k i rs f=u.f
 |_,[],_,_,_,_,h,_,_,_,_=>by simp at h
 |i,r0::rs,f,0,r,u,h1,h2,h3,h4,h5=>by
  simp at h1;subst h1;simp only[cellAt,h2];have hb:Nat.beq u.k k=true:=by rw[h3];exact Nat.beq_refl k
  have Zu:S i=true:=h4;rw[hb,Zu];simp only[Bool.and_self,cond_true];have:=Cg (S:=S) (S':=λ_=>false) (k:=k) (i+1) rs u.f λj' r' u' g1 g2 g3=>by
   have:=h5 (j'+1) r' u' (by simpa using g1) g2 g3 om;rw[show i+1+j'=i+(j'+1) from by omega];exact this
  rw[this];exact Je _ _ _ λ_ _=>rfl
 |i,r0::rs,f,j+1,r,u,h1,h2,h3,h4,h5=>by
  simp only[cellAt];exact Qc (i+1) rs _ j r u (by simpa using h1) h2 h3 (by rw[show i+1+j=i+(j+1) from by omega];exact h4) λj' r' u' g1 g2 g3 g4=>by
   have:=h5 (j'+1) r' u' (by simpa using g1) g2 g3 om;rw[show i+1+j'=i+(j'+1) from by omega];exact this
def Qd {S:Nat->Bool} {k:Nat} {a a':EA}:∀(i:Nat) (rs:List Rec) (f:EA->Own),f a=f a'->(∀(j:Nat) (r:Rec) (u:pD),rs[j]?=some r->r.u=some u->S (i+j)=true->u.f a=u.f a')->cellAt S k i rs f a=cellAt S k i rs f a'
 |_,[],_,h,_=>h
 |i,r::rs,f,h,hd=>by
  simp only[cellAt];refine Qd (i+1) rs _ ?_ λj r' u h1 h2 h3=>hd (j+1) r' u (by simpa using h1) h2 (by rw[show i+(j+1)=i+1+j from by omega];exact h3);cases hu:r.u with
  |none=>exact h
  |some u=>
   simp only[]
   cases hb:S i&&Nat.beq u.k k with
   |false=>exact h
   |true=>exact hd 0 r u rfl hu (by simp only[Bool.and_eq_true] at hb;exact hb.1)
def Qe {S:Nat->Bool} {i:Nat} {r:Rec} {rs:List Rec} {H:List (EA->Own)} (hS:S i=true):iU S (i+1) rs 0 (mO H r.u)=iU S i (r::rs) 0 H:=by
 apply List.ext_getElem?;intro j;rw[pE,pE];cases hu:r.u with
 |none=>simp[mO,cellAt,hu]
 |some u=>
  simp only[mO,List.getElem?_set]
  by_cases hk:u.k=j
  .subst hk
   by_cases hl:u.k<H.length
   .simp[hl,cellAt,hu,hS]
   simp[hl]
  rw[if_neg hk]
  have hb:Nat.beq u.k j=false:=by
   cases hb:Nat.beq u.k j with
   |false=>rfl
   |true=>exact absurd (Nat.eq_of_beq_eq_true hb) hk
  cases H[j]? with
  |none=>rfl
  |some f=>simp[cellAt,hu,hb]
def Qf {S:Nat->Bool} {i:Nat} {rs:List Rec} {H:List (EA->Own)} (h:∀j,i<=j->S j=false):iU S i rs 0 H=H:=by
 apply List.ext_getElem?;intro j;rw[pE];cases H[j]? with
 |none=>rfl
 |some f=>simp[Je i rs f h]
def Fa (P:Program) (n:Nat) (ops:Array Oper) (H H':List (EA->Own)) (T:List Nat) (Γ:Env) (o:Oper) (x:AV):Prop:=
 ∀(F:Nat->Own) (W0:World×(Nat->Prop)) (I0 I:Im) (γ:Nat->Own) (a:Act) (w:World) (Q:Exit->Act->World->Prop),St ⟨W0.1,I0,n,W0.2⟩ I (fq T (ea a γ) F 0 H) Γ a w->
  (∀γ',(∀t,o.dst≠some t->γ' t=γ t)->∀I' a' w',St ⟨W0.1,I0,n,W0.2⟩ I' (fq T (ea a' γ') F 0 H') (n5 o.dst x Γ) a' w'->wpList P ops Q [] a' w')->wpList P ops Q [o] a w
def x5 (P:Program) (n:Nat) (ops:Array Oper):Env->List (EA->Own)->List Oper->List Rec->Prop
 |_,_,[],[]=>True
 |Γ,H,o::os,r::rs=>Fa P n ops H (mO H r.u) r.T (Γ.only (o.looksAt ops)) o r.x/\(∀u,r.u=some u->u.fit)/\x5 P n ops (n5 o.dst r.x Γ) (mO H r.u) os rs
 |_,_,_,_=>False
def fY:Nat->List Oper->List Rec->List pt
 |k,o::os,r::rs=>match o.dst with|some d=>(k,d,r.x)::fY (k+1) os rs|none=>fY (k+1) os rs
 |_,_,_=>[]
def Jf:∀(k:Nat) (os:List Oper) (rs:List Rec),(fY k os rs).Pairwise (λe f=>e.1<f.1)/\∀e∈fY k os rs,k<=e.1
 |k,[],_=>by simp[fY]
 |k,o::os,[]=>by simp[fY]
 |k,o::os,r::rs=>by
  have ih:=Jf (k+1) os rs;simp only[fY];split
  .refine⟨List.pairwise_cons.2 ⟨λe he=>by have:=ih.2 e he;simp;omega,ih.1⟩,λe he=>?_⟩;rcases List.mem_cons.1 he with rfl|he
   .simp
   have:=ih.2 e he;omega
  exact⟨ih.1,λe he=>by have:=ih.2 e he;omega⟩
def Qg {e:pt}:∀{k:Nat} {os:List Oper} {rs:List Rec},e∈fY k os rs->∃i o r,os[i]?=some o/\rs[i]?=some r/\e.1=k+i/\o.dst=some e.2.1/\e.2.2=r.x
 |k,[],_,h=>by simp[fY] at h
 |k,o::os,[],h=>by simp[fY] at h
 |k,o::os,r::rs,h=>by
  simp only[fY] at h;have key:e∈fY (k+1) os rs->∃i o' r',(o::os)[i]?=some o'/\(r::rs)[i]?=some r'/\e.1=k+i/\o'.dst=some e.2.1/\e.2.2=r'.x:=λh=>by
   obtain⟨i,o',r',h1,h2,h3,h4⟩:=Qg h;exact⟨i+1,o',r',by simpa using h1,by simpa using h2,by omega,h4⟩
  split at h
  .rename_i d hd;rcases List.mem_cons.1 h with rfl|h
   .exact⟨0,o,r,rfl,rfl,rfl,hd,rfl⟩
   exact key h
  exact key h
def Zv {i d:Nat} {o:Oper} {r:Rec} (hd:o.dst=some d):∀{k:Nat} {os:List Oper} {rs:List Rec},os[i]?=some o->rs[i]?=some r->(k+i,d,r.x)∈fY k os rs:=by
 induction i with
 |zero=>intro k os rs h1 h2;cases os<;>cases rs<;>simp at h1 h2;subst h1 h2;simp[fY,hd]
 |succ i ih=>
  intro k os rs h1 h2
  cases os with
  |nil=>simp at h1
  |cons o' os=>cases rs with
   |nil=>simp at h2
   |cons r' rs=>
    simp at h1 h2
    have:=ih (k:=k+1) h1 h2
    rw[show k+(i+1)=k+1+i from by omega]
    simp only[fY]
    split
    .exact List.mem_cons_of_mem _ this
    exact this
def x6 (Γ:Env):List Oper->List Rec->Env
 |o::os,r::rs=>x6 (n5 o.dst r.x Γ) os rs
 |_,_=>Γ
def Qh:∀(os:List Oper) (rs:List Rec) (k:Nat) (Γ:Env),x6 Γ os rs=fX (fY k os rs).reverse++Γ
 |[],_,_,_=>by simp[x6,fY,fX]
 |_::_,[],_,_=>by simp[x6,fY,fX]
 |o::os,r::rs,k,Γ=>by
  rw[x6,Qh os rs (k+1)];simp only[fY];cases o.dst with
  |none=>rfl
  |some d=>simp[fX,n5]
def Ch (H:List (EA->Own)):List Rec->List (EA->Own)
 |r::rs=>Ch (mO H r.u) rs
 |[]=>H
def Qi:∀(rs:List Rec) (i:Nat) (H:List (EA->Own)),Ch H rs=iU (λ_=>true) i rs 0 H
 |[],i,H=>by
  apply List.ext_getElem?;intro j;rw[pE];show H[j]?=_;cases H[j]?<;>rfl
 |r::rs,i,H=>by rw[Ch,Qi rs (i+1),Qe rfl]
def x5.at {P:Program} {n:Nat} {ops:Array Oper} {Γ0:Env}:∀(os:List Oper) (rs:List Rec) (k:Nat) (H:List (EA->Own)) (done:List pt),x5 P n ops (fX done++Γ0) H os rs->(∀e∈done,e.1<k)->
 os.length=rs.length/\(∀(i:Nat) (r:Rec) (u:pD),rs[i]?=some r->r.u=some u->u.fit)/\∀(i:Nat) (o:Oper) (r:Rec),os[i]?=some o->rs[i]?=some r->
  Fa P n ops (iU (λj=>decide (j<k+i)) k rs 0 H) (mO (iU (λj=>decide (j<k+i)) k rs 0 H) r.u) r.T ((fX (((fY k os rs).reverse++done).filter λe=>decide (e.1<k+i))++Γ0).only (o.looksAt ops)) o r.x
 |[],[],_,_,_,_,_=>⟨rfl,λi r u h=>by simp at h,λi o r h=>by simp at h⟩
 |o::os,r::rs,k,H,done,h,hd=>by
  obtain⟨h1,hf,h2⟩:=h;have e0:n5 o.dst r.x (fX done++Γ0)=fX (match o.dst with|some d=>(k,d,r.x)::done|none=>done)++Γ0:=by
   cases o.dst with
   |none=>rfl
   |some d=>simp[n5,fX]
  rw[e0] at h2;have ih:=x5.at os rs (k+1) (mO H r.u) _ h2 (λe he=>by
   split at he
   .rcases List.mem_cons.1 he with rfl|he
    .simp
    have:=hd e he;omega
   have:=hd e he;omega)
  have B0:(fY k (o::os) (r::rs)).reverse++done=(fY (k+1) os rs).reverse++(match o.dst with|some d=>(k,d,r.x)::done|none=>done):=by
   simp only[fY];cases o.dst with
   |none=>rfl
   |some d=>simp
  refine⟨by simp[ih.1],λi r' u g1 g2=>?_,λi o' r' ho hr=>?_⟩
  .cases i with
   |zero=>simp at g1;subst g1;exact hf u g2
   |succ i=>exact ih.2.1 i r' u (by simpa using g1) g2
  rw[B0];cases i with
  |zero=>
   simp at ho hr;subst ho hr
   have lE:((fY (k+1) os rs).reverse++(match o.dst with|some d=>(k,d,r.x)::done|none=>done)).filter (λe=>decide (e.1<k+0))=done:=by
    rw[List.filter_append];have e1:(fY (k+1) os rs).reverse.filter (λe=>decide (e.1<k+0))=[]:=by
     rw[List.filter_eq_nil_iff];intro e he;have:=(Jf (k+1) os rs).2 e (List.mem_reverse.1 he);simp;omega
    have e2:done.filter (λe=>decide (e.1<k+0))=done:=by
     rw[List.filter_eq_self];intro e he;simpa using hd e he
    rw[e1];split
    .rw[List.filter_cons];simp only[Nat.add_zero,Nat.lt_irrefl,decide_false,Bool.false_eq_true,if_false,List.nil_append];simpa using e2
    simpa using e2
   rw[lE,Qf λj hj=>by simp;omega]
   exact h1
  |succ i=>
   have:=ih.2.2 i o' r' (by simpa using ho) (by simpa using hr)
   rw[Qe ig] at this
   rw[show k+(i+1)=k+1+i from by omega]
   exact this
 |[],_::_,_,_,_,h,_=>h.elim
 |_::_,[],_,_,_,h,_=>h.elim
abbrev Meta:=List (List Nat×Option (Nat×List Nat))
def rp:Nat->Meta->Meta
 |0,l=>l
 |n+1,l=>([],none)::rp n l
def Rec.nw (r:Rec):List Nat×Option (Nat×List Nat):=(r.T,r.u.map λu=>(u.k,u.aQ))
def se (l:List Oper) (ms:Meta):Bool:=
 let C:=kf [] l
 let before:=λ(i j:Nat)=>if j<i then(C.getD i []).contains j else(C.getD j []).contains i
 (l.zipIdx.all λ(o,i)=>(o.after.toList.all λe=>!Region.binds .any e||Nat.blt e.on i)&&
   (slotsOf l.toArray o).all λt=>l.zipIdx.all λ(o',j)=>Nat.beq i j||!(o'.dst==some t)||before i j)&&
 (ms.zipIdx.all λ(m,i)=>(m.1.all λk=>ms.zipIdx.all λ(m',j)=>Nat.beq i j||(match m'.2 with|some u=>!Nat.beq u.1 k|none=>true)||before i j)&&
   (match m.2 with|some u=>m.1.contains u.1|none=>true))&&
 (l.zipIdx.all λ(o,i)=>match o.dst with|none=>true|some d=>ms.zipIdx.all λ(m,j)=>Nat.beq i j||(match m.2 with|some u=>!u.2.contains d|none=>true)||(C.getD j []).contains i)
def Jg {i j:Nat} (h:i≠j):Nat.beq i j=false:=by
 cases hb:Nat.beq i j with
 |false=>rfl
 |true=>exact absurd (Nat.eq_of_beq_eq_true hb) h
def Zw {l:List Oper} {ms:Meta} (h:se l ms=true) {i:Nat} {o:Oper} (ho:l[i]?=some o):∀e∈o.after.toList,Region.binds .any e=true->e.on<i:=λe he hb=>by
 simp only[se,List.all_eq_true,Bool.and_eq_true] at h;have hm:(o,i)∈l.zipIdx:=by rw[List.mem_zipIdx_iff_getElem?];exact ho
 have:=(h.1.1 _ hm).1 e he;rw[hb] at this;simpa using this
def Zx {l:List Oper} {ms:Meta} (h:se l ms=true) {i:Nat} {o:Oper} (ho:l[i]?=some o):
 ∀t∈slotsOf l.toArray o,∀j o',l[j]?=some o'->i≠j->o'.dst=some t->if j<i then j∈(kf [] l).getD i [] else i∈(kf [] l).getD j []:=λt ht j o' l5 aW hd=>by
 simp only[se,List.all_eq_true,Bool.and_eq_true] at h;have hm:(o,i)∈l.zipIdx:=by rw[List.mem_zipIdx_iff_getElem?];exact ho
 have lX:(o',j)∈l.zipIdx:=by rw[List.mem_zipIdx_iff_getElem?];exact l5
 have:=(h.1.1 _ hm).2 t ht _ lX;simp only[Jg aW,hd,Bool.false_or] at this;have h4:(!(some t==some t))=false:=by simp
 rw[h4,Bool.false_or] at this;split
 .rename_i bz;rw[if_pos bz] at this;simpa using this
 rename_i bz;rw[if_neg bz] at this;simpa using this
def Zy {l:List Oper} {rs:List Rec} (h:se l (rs.map Rec.nw)=true) {i:Nat} {r:Rec} (hr:rs[i]?=some r):
 (∀k∈r.T,∀j r' u,rs[j]?=some r'->i≠j->r'.u=some u->u.k=k->if j<i then j∈(kf [] l).getD i [] else i∈(kf [] l).getD j [])/\∀u,r.u=some u->u.k∈r.T:=by
 simp only[se,List.all_eq_true,Bool.and_eq_true] at h;have hm:(r.nw,i)∈(rs.map Rec.nw).zipIdx:=by rw[List.mem_zipIdx_iff_getElem?];simp[hr]
 obtain⟨h1,h2⟩:=h.1.2 _ hm;refine⟨λk hk j r' u Zz aW hu ZA=>?_,λu hu=>?_⟩
 .have lX:(r'.nw,j)∈(rs.map Rec.nw).zipIdx:=by rw[List.mem_zipIdx_iff_getElem?];simp[Zz]
  have:=h1 k hk _ lX;have hb:Nat.beq u.k k=true:=by rw[ZA];exact Nat.beq_refl k
  simp only[Jg aW,Rec.nw,hu,Option.map_some,hb,Bool.not_true,Bool.false_or] at this;split
  .rename_i bz;rw[if_pos bz] at this;simpa using this
  rename_i bz;rw[if_neg bz] at this;simpa using this
 simp only[Rec.nw,hu,Option.map_some] at h2;simpa using h2
def ZB {l:List Oper} {rs:List Rec} (h:se l (rs.map Rec.nw)=true) {i d:Nat} {o:Oper} (ho:l[i]?=some o) (hd:o.dst=some d) {j:Nat} {r:Rec} {u:pD} (hr:rs[j]?=some r) (hu:r.u=some u) (aW:i≠j) (sf:d∈u.aQ):
 i∈(kf [] l).getD j []:=by
 simp only[se,List.all_eq_true,Bool.and_eq_true] at h;have hm:(o,i)∈l.zipIdx:=by rw[List.mem_zipIdx_iff_getElem?];exact ho
 have:=h.2 _ hm;simp only[hd,List.all_eq_true] at this;have lX:(r.nw,j)∈(rs.map Rec.nw).zipIdx:=by rw[List.mem_zipIdx_iff_getElem?];simp[hr]
 have:=this _ lX;simp only[Jg aW,Rec.nw,hu,Option.map_some,Bool.false_or,Bool.or_eq_true,Bool.not_eq_true'] at this;rcases this with h|h
 .have:u.aQ.contains d=true:=by simpa using sf
  rw[this] at h;cases h
 simpa using h
section
variable {P:Program} {c:Ctx} {I:Im} {H:List Own} {Γ:Env} {a:Act} {w:World} {Q:Exit->Act->World->Prop}
def ZC {o:Oper} {K:Act->World->Prop} {Q':Exit->Act->World->Prop} (hq:∀e a w,e≠.normal->Q' e a w->Q e a w) (h:o.wp P a w K Q'):o.wp P a w (λa' w'=>(∃v,a'.tmps=(a.put o.dst v).tmps)/\K a' w') Q:=by
 unfold Oper.wp at h⊢;generalize (execOp a.eval o).run P w=r at h⊢;cases r with
 |ok n w'=>
  cases n with
  |enter f args=>
   refine Calls.mono h λe xM he=>?_
   cases e with
   |returned v=>exact⟨⟨v,rfl⟩,he⟩
   |panicked ch=>exact hq _ _ _ bn he
   |outgrown=>exact let⟨a,w,h⟩:=he;⟨a,w,hq _ _ _ bn h⟩
  |row row args=>exact Rows.mono h λv xM he=>⟨⟨v,rfl⟩,he⟩
  |value v=>exact⟨⟨v,rfl⟩,h⟩
  |skip=>exact⟨⟨undef,rfl⟩,h⟩
  |defer d=>exact⟨⟨undef,by cases o.dst<;>rfl⟩,h⟩
  |_=>exact h
 |halt x w'=>cases x<;>simp only[Oper.upon] at h⊢<;>first|exact h|exact hq _ _ _ bn h
def Qj {a:EA} {T:List Nat} {F:Nat->Own} {Hf:List (EA->Own)} {X:List Own} (hl:X.length=Hf.length) (h:∀j f x,Hf[j]?=some f->X[j]?=some x->x=bif T.contains j then f a else F j):fq T a F 0 Hf=X:=by
 apply List.ext_getElem?;intro j;rw[x4];cases hf:Hf[j]? with
 |none=>
  have:Hf.length<=j:=by simpa using hf
  rw[List.getElem?_eq_none om];rfl
 |some f=>
  have hj:j<Hf.length:=(List.getElem?_eq_some_iff.1 hf).1
  have hx:X[j]?=some X[j]:=by simp[hl,hj]
  rw[hx]
  simp only[Option.map_some,Nat.zero_add]
  rw[<-h j f _ hf hx]
def St.ZD (U:St c I H Γ a w):St ⟨c.W,I,c.n,c.F⟩ I H Γ a w:=
 ⟨⟨Im.le_refl I,λ_ _ _=>rfl,U.step.dF,U.step.below⟩,U.own,U.env,U.size,U.defers⟩
def Ci (pre tail:List Oper) (ms:Meta):Bool:=
 se (pre++tail) (ms++tail.map λ_=>([],none))&&(List.range tail.length).all λi=>(List.range (pre.length+i)).all λj=>((kf [] (pre++tail)).getD (pre.length+i) []).contains j
def Fb {α:Type} {x y:List α} {i:Nat} {v:α} (h:x[i]?=some v):(x++y)[i]?=some v:=by
 rw[List.getElem?_append_left (List.getElem?_eq_some_iff.1 h).1];exact h
def ZE {pre tail:List Oper} {rs:List Rec} {H0:List Own} (Jh:Ci pre tail (rs.map Rec.nw)=true) (hlen:pre.length=rs.length) (tD:(pre.all λo=>match o.dst with|some d=>Nat.blt d c.n|none=>true)=true)
 (jf:∀(i:Nat) (r:Rec) (u:pD),rs[i]?=some r->r.u=some u->u.fit)
 (run:∀(i:Nat) (o:Oper) (r:Rec),pre[i]?=some o->rs[i]?=some r->Fa P c.n (pre++tail).toArray (iU (λj=>decide (j<i)) 0 rs 0 (H0.map λo _=>o)) (mO (iU (λj=>decide (j<i)) 0 rs 0 (H0.map λo _=>o)) r.u) r.T ((fX ((fY 0 pre rs).reverse.filter λe=>decide (e.1<i))++Γ).only (o.looksAt (pre++tail).toArray)) o r.x)
 (k:∀γ I' a' w',St c I' (mr (ea a' γ) (iU (λ_=>true) 0 rs 0 (H0.map λo _=>o))) (fX (fY 0 pre rs).reverse++Γ) a' w'->wpList P (pre++tail).toArray Q tail a' w'):
 ∀(fuel:Nat) (listed:Array Bool) (γ:Nat->Own) (I:Im) (a:Act) (w:World),listed.size=(pre++tail).length->((List.range (pre++tail).length).filter λi=>!listed.getD i false).length<=fuel->
  (∀i,i<(pre++tail).length->listed.getD i false=true->i<pre.length)->
  (∀(i:Nat) (o:Oper),(pre++tail)[i]?=some o->listed.getD i false=true->∀e∈o.after.toList,Region.binds .any e=true->listed.getD e.on false=true)->
  St c I (mr (ea a γ) (iU (λi=>listed.getD i false) 0 rs 0 (H0.map λo _=>o))) (fX ((fY 0 pre rs).reverse.filter λe=>listed.getD e.1 false)++Γ) a w->wpAny P .any (pre++tail).toArray Q fuel listed a w:=by
 simp only[Ci,Bool.and_eq_true,List.all_eq_true] at Jh;have gU:se (pre++tail) ((rs++tail.map λ_=>(⟨AV.any,[],none⟩:Rec)).map Rec.nw)=true:=by
  rw[List.map_append,List.map_map];exact Jh.1
 have hT:∀{i j:Nat},pre.length<=i->i<(pre++tail).length->j<i->j∈(kf [] (pre++tail)).getD i []:=λ{i j} hi jg hj=>by
  have:=Jh.2 (i-pre.length) (by simp at jg⊢;omega) j ig;rw[show pre.length+(i-pre.length)=i from by omega] at this;simpa using this
 have hE:∀{i:Nat} {o:Oper},(pre++tail)[i]?=some o->∀e∈o.after.toList,Region.binds .any e=true->e.on<i:=λho=>Zw gU ho;have hL:(fY 0 pre rs).reverse.Pairwise (λe f=>f.1<e.1):=by
  rw[List.pairwise_reverse];exact(Jf 0 pre rs).1
 have tC:∀e∈(fY 0 pre rs).reverse,∃o',pre[e.1]?=some o'/\o'.dst=some e.2.1:=λe he=>by
  obtain⟨j,o',r',g1,_,g3,g4,_⟩:=Qg (List.mem_reverse.1 he);exact⟨o',by rw[g3,Nat.zero_add];exact g1,g4⟩
 have Qk:∀(listed:Array Bool) (γ:Nat->Own) (I:Im) (a:Act) (w:World),(∀i,i<pre.length->listed.getD i false=true)->
  St c I (mr (ea a γ) (iU (λi=>listed.getD i false) 0 rs 0 (H0.map λo _=>o))) (fX ((fY 0 pre rs).reverse.filter λe=>listed.getD e.1 false)++Γ) a w->wpList P (pre++tail).toArray Q tail a w:=λlisted γ I a w aM U=>by
  refine k γ I a w ?_;have e1:(fY 0 pre rs).reverse.filter (λe=>listed.getD e.1 false)=(fY 0 pre rs).reverse:=by
   rw[List.filter_eq_self];intro e he;obtain⟨o',h1,_⟩:=tC e he;exact aM e.1 (List.getElem?_eq_some_iff.1 h1).1
  have e2:iU (λi=>listed.getD i false) 0 rs 0 (H0.map λo _=>o)=iU (λ_=>true) 0 rs 0 (H0.map λo _=>o):=by
   apply List.ext_getElem?;intro j;rw[pE,pE];cases(H0.map λ(o:Own) (_:EA)=>o)[j]? with
   |none=>rfl
   |some f=>
    simp only[Option.map_some]
    rw[Cg (S:=λi=>listed.getD i false) (S':=λ_=>true) 0 rs f λj r u h1 _ _=>by
     rw[Nat.zero_add];exact aM j (by rw[hlen];exact(List.getElem?_eq_some_iff.1 h1).1)]
  rw[e1,e2] at U;exact U
 intro fuel;induction fuel with
 |zero=>
  intro listed γ I a w db hf pz bq U
  have h0:∀i,i<(pre++tail).length->listed.getD i false=true:=λi hi=>by
   have:(List.range (pre++tail).length).filter (λi=>!listed.getD i false)=[]:=List.eq_nil_of_length_eq_zero om;rw[List.filter_eq_nil_iff] at this;simpa using this i (by simpa using hi)
  have j7:tail=[]:=by
   rcases tail with _|⟨t,ts⟩
   .rfl
   have:=pz pre.length bn (h0 pre.length bn);omega
  have hw:=Qk listed γ I a w (λi hi=>h0 i ig) U
  exact E5 hE hT 0 (pre++tail).length listed 0 a w om bn om om db (λi hi=>⟨λ_=>hi,λ_=>h0 i hi⟩) (by subst j7;simpa using hw)
 |succ fuel ih=>
  intro listed γ I a w db hf pz bq U
  by_cases aM:∀i,i<pre.length->listed.getD i false=true
  .refine E5 hE hT _ pre.length listed (fuel+1) a w rfl om bn (P4 hf pz aM) db (λi hi=>⟨pz i hi,aM i⟩) ?_
   rw[List.drop_left]
   exact Qk listed γ I a w aM U
  have Ce:∃i0,i0<pre.length/\listed.getD i0 false=false:=by
   refine Classical.byContradiction λhn=>aM λi hi=>?_;cases hb:listed.getD i false with
   |true=>rfl
   |false=>exact absurd ⟨i,hi,hb⟩ hn
  obtain⟨i0,Cf,uZ⟩:=Ce
  refine⟨λhr=>?_,λi hi=>?_⟩
  .exfalso
   have:∀i,i<(pre++tail).length->listed.getD i false=true:=λi=>by
    induction i using Nat.strongRecOn with
    |_ i BX=>
     intro hi
     cases hl:listed.getD i false with
     |true=>rfl
     |false=>
      have dr:i∈Region.ready .any (pre++tail).toArray listed:=by
       refine mem_ready.2 ⟨by rw[Aa om];exact hl,(pre++tail)[i],by simp[hi],λe he hb=>?_⟩;have bz:=hE (i:=i) (o:=(pre++tail)[i]) (by simp[hi]) e (by simpa using he) hb;exact BX e.on bz om
      rw[hr] at dr;cases dr
   rw[this i0 ig] at uZ;cases uZ
  obtain⟨h1,o,h2,h3⟩:=mem_ready.1 hi
  have bz:i<(pre++tail).length:=by have:=(Array.getElem?_eq_some_iff.1 h2).1;simpa using this
  have Ad:(pre++tail)[i]?=some o:=by simpa using h2
  rw[Aa om] at h1
  have aK:=I6 db bq Ad (λe he hb=>h3 e (by simpa using he) hb)
  have lI:i<pre.length:=by
   refine Classical.byContradiction λhn=>?_;have:=aK i0 om (hT om bz om);rw[this] at uZ;cases uZ
  have km:∀j,(listed.setIfInBounds i true).getD j false=if j=i then true else listed.getD j false:=λj=>ES om false
  have I7:=EP (S:=λj=>listed.getD j false) (pre++tail) [] (λi k hk=>by simp at hk) (λi o ho hi e he hb=>bq i o ho (by simpa using hi) e he hb)
  have I8:∀(i':Nat) (o':Oper),(pre++tail)[i']?=some o'->(listed.setIfInBounds i true).getD i' false=true->∀e∈o'.after.toList,Region.binds .any e=true->(listed.setIfInBounds i true).getD e.on false=true:=λi' o' l5 jg e he hb=>by
   rw[km] at jg⊢;split
   .rfl
   split at jg
   .rename_i Cd;subst Cd;rw[Ad] at l5;cases l5;exact h3 e (by simpa using he) hb
   exact bq i' o' l5 jg e he hb
  have xY:∀j,i∈(kf [] (pre++tail)).getD j []->listed.getD j false=false:=λj hj=>by
   cases hb:listed.getD j false with
   |false=>rfl
   |true=>rw[I7 j i hj hb] at h1;cases h1
  have Jb:∀j,j<(pre++tail).length->(listed.setIfInBounds i true).getD j false=true->j<pre.length:=λj hj hb=>by
   rw[km] at hb;split at hb
   .rename_i e;subst e;exact lI
   exact pz j hj hb
  have lF:pre[i]?=some o:=by rw[List.getElem?_append_left lI] at Ad;exact Ad
  have kK:i<rs.length:=by omega
  have Ae:rs[i]?=some rs[i]:=by simp[kK]
  generalize rs[i]=r at Ae
  obtain⟨ZF,ZG⟩:=Zy gU (Fb Ae)
  have z0:∀k∈r.T,∀j r' u,rs[j]?=some r'->i≠j->r'.u=some u->u.k=k->if j<i then j∈(kf [] (pre++tail)).getD i [] else i∈(kf [] (pre++tail)).getD j []:=λk hk j r' u g=>ZF k hk j r' u (Fb g)
  have kj:=run i o r lF Ae
  have Ji:∀k∈r.T,∀f,cellAt (λj=>decide (j<i)) k 0 rs f=cellAt (λj=>listed.getD j false) k 0 rs f:=λk hk f=>Cg 0 rs f λj r' u g1 g2 g3=>by
   rw[Nat.zero_add];by_cases j5:i=j
   .subst j5;rw[h1];simp
   have:=z0 k hk j r' u g1 j5 g2 g3;split at this
   .rename_i pB;rw[aK j (λe=>j5 e.symm) this];simpa using pB
   rename_i pB;rw[xY j this];simpa using pB
  have ZH:=Zx gU Ad
  have E6:∀t∈slotsOf (pre++tail).toArray o,∀j o',pre[j]?=some o'->i≠j->o'.dst=some t->if j<i then j∈(kf [] (pre++tail)).getD i [] else i∈(kf [] (pre++tail)).getD j []:=λt ht j o' g=>ZH t ht j o' (Fb g)
  have I9:dy I a ((fX ((fY 0 pre rs).reverse.filter λe=>decide (e.1<i))++Γ).only (o.looksAt (pre++tail).toArray)):=λt y e=>by
   obtain⟨g1,g2⟩:=Env.IB e;have ht:t∈slotsOf (pre++tail).toArray o:=by
    unfold slotsOf;rw[List.mem_append];exact .inr (by simpa using g2)
   rw[BZ (q:=λe=>listed.getD e.1 false) _ (λe he r9=>?_)] at g1
   .exact U.env t y g1
   obtain⟨o',k1,k2⟩:=tC e he;by_cases xZ:e.1=i
   .rw[xZ,h1];simp
   have:=E6 t ht e.1 o' k1 (λh=>xZ h.symm) (by rw[k2,r9]);split at this
   .rename_i pB;rw[aK e.1 xZ this];simpa using pB
   rename_i pB;rw[xY e.1 this];simpa using pB
  have Ja:((List.range (pre++tail).length).filter λj=>!(listed.setIfInBounds i true).getD j false).length<=fuel:=by
   have:=filter_lt (l:=List.range (pre++tail).length) (p:=λj=>!listed.getD j false) (q:=λj=>!(listed.setIfInBounds i true).getD j false) (i:=i) (by simpa using bz) (by simp only[h1];rfl) (by simp only[km];simp) (λj hj=>by
    simp only[km] at hj;split at hj
    .cases hj
    exact hj)
   omega
  let HS:List (EA->Own):=iU (λi=>listed.getD i false) 0 rs 0 (H0.map λo _=>o)
  let F:Nat->Own:=λk=>match HS[k]? with|some f=>f (ea a γ)|none=>Own.gone
  have ZI:fq r.T (ea a γ) F 0 (iU (λj=>decide (j<i)) 0 rs 0 (H0.map λo _=>o))=mr (ea a γ) HS:=Qj (by simp[mr,HS,E9]) λj f x g1 g2=>by
   rw[pE] at g1;have Cj:(mr (ea a γ) HS)[j]?=some x:=g2;simp only[mr,List.getElem?_map] at Cj;have g3:HS[j]?=((H0.map λ(o:Own) (_:EA)=>o)[j]?).map (cellAt (λi=>listed.getD i false) (0+j) 0 rs):=pE 0 _ j;cases h0:(H0.map λ(o:Own) (_:EA)=>o)[j]? with
   |none=>rw[h0] at g1;simp at g1
   |some f0=>
    rw[h0] at g1 g3
    simp only[Option.map_some,Option.some.injEq,Nat.zero_add] at g1 g3
    rw[g3] at Cj
    simp only[Option.map_some,Option.some.injEq] at Cj
    cases hT:r.T.contains j with
    |true=>
     simp only[cond_true]
     rw[<-g1,<-Cj,Ji j (by simpa using hT)]
    |false=>
     simp only[cond_false,F,g3,<-Cj]
  have ZJ:St ⟨c.W,I,c.n,c.F⟩ I (fq r.T (ea a γ) F 0 (iU (λj=>decide (j<i)) 0 rs 0 (H0.map λo _=>o))) ((fX ((fY 0 pre rs).reverse.filter λe=>decide (e.1<i))++Γ).only (o.looksAt (pre++tail).toArray)) a w:=by
   rw[ZI];exact⟨U.ZD.step,U.own,I9,U.size,U.defers⟩
  have qt:∀γ',(∀t,o.dst≠some t->γ' t=γ t)->∀I' a' w',(∃v,a'.tmps=(a.put o.dst v).tmps)->St ⟨c.W,I,c.n,c.F⟩ I' (fq r.T (ea a' γ') F 0 (mO (iU (λj=>decide (j<i)) 0 rs 0 (H0.map λo _=>o)) r.u)) (n5 o.dst r.x ((fX ((fY 0 pre rs).reverse.filter λe=>decide (e.1<i))++Γ).only (o.looksAt (pre++tail).toArray))) a' w'->
   wpAny P .any (pre++tail).toArray Q fuel (listed.setIfInBounds i true) a' w':=λγ' hγ I' a' w' ⟨v,hv⟩ h'=>by
   refine ih (listed.setIfInBounds i true) γ' I' a' w' (by simpa using db) Ja Jb I8 ?_;have Ck:∀t,o.dst≠some t->a'.tmps.getD t undef=a.tmps.getD t undef:=λt ht=>by
    rw[hv];cases hd:o.dst with
    |none=>rfl
    |some d=>
     have aW:d≠t:=λe=>ht (by rw[hd,e])
     simp[Act.put,aW]
   have eH:fq r.T (ea a' γ') F 0 (mO (iU (λj=>decide (j<i)) 0 rs 0 (H0.map λo _=>o)) r.u)=mr (ea a' γ') (iU (λj=>(listed.setIfInBounds i true).getD j false) 0 rs 0 (H0.map λo _=>o)):=Qj (by cases r.u<;>simp[mr,E9,mO]) λj f x g1 g2=>by
    simp only[mr,List.getElem?_map] at g2;rw[pE] at g2;cases h0:(H0.map λ(o:Own) (_:EA)=>o)[j]? with
    |none=>rw[h0] at g2;simp at g2
    |some f0=>
     rw[h0] at g2
     simp only[Option.map_some,Option.some.injEq,Nat.zero_add] at g2
     have ZK:∀a a',f0 a=f0 a':=by
      rw[List.getElem?_map] at h0;cases hh:H0[j]? with
      |none=>rw[hh] at h0;simp at h0
      |some o0=>rw[hh] at h0;simp at h0;subst h0;intro _ _;rfl
     have lg:∀(mu:∀u,r.u=some u->u.k≠j),cellAt (λj=>(listed.setIfInBounds i true).getD j false) j 0 rs f0=cellAt (λj=>listed.getD j false) j 0 rs f0:=λmu=>Cg 0 rs f0 λj' r' u g3 g4 g5=>by
      rw[Nat.zero_add,km,if_neg];intro e;subst e;rw[Ae] at g3;cases g3;exact mu u g4 g5
     cases hT:r.T.contains j with
     |true=>
      simp only[cond_true]
      rw[<-g2]
      have Jj:j∈r.T:=by simpa using hT
      cases hu:r.u with
      |none=>
       rw[hu] at g1
       simp only[mO] at g1
       rw[pE,h0] at g1
       simp only[Option.map_some,Option.some.injEq,Nat.zero_add] at g1
       rw[lg (λu e=>by rw[hu] at e;cases e),<-Ji j Jj,g1]
      |some u=>
       rw[hu] at g1
       simp only[mO] at g1
       by_cases hk:u.k=j
       .subst hk
        have pB:u.k<(iU (λj=>decide (j<i)) 0 rs 0 (H0.map λo _=>o)).length:=by
         rw[E9];exact(List.getElem?_eq_some_iff.1 h0).1
        rw[List.getElem?_set_self pB] at g1
        cases g1
        rw[Qc 0 rs f0 i r u Ae hu rfl (by rw[Nat.zero_add,km];simp) λj' r' u' g3 g4 g5 g6=>?_]
        have:=z0 u.k Jj j' r' u' g3 om g4 g5
        rw[if_neg om] at this
        rw[Nat.zero_add,km,if_neg om]
        exact xY j' this
       rw[List.getElem?_set_ne hk,pE,h0] at g1
       simp only[Option.map_some,Option.some.injEq,Nat.zero_add] at g1
       rw[lg (λu' e=>by rw[hu] at e;cases e;exact hk),<-Ji j Jj,g1]
     |false=>
      simp only[cond_false]
      rw[<-g2]
      have mu:∀u,r.u=some u->u.k≠j:=λu hu e=>by
       have:=ZG u hu;rw[e] at this;have:r.T.contains j=true:=by simpa using this
       rw[hT] at this;cases this
      rw[lg mu]
      have g3:HS[j]?=some (cellAt (λi=>listed.getD i false) j 0 rs f0):=by
       have:=pE (S:=λi=>listed.getD i false) (i:=0) (rs:=rs) 0 (H0.map λ(o:Own) (_:EA)=>o) j;rw[h0,Nat.zero_add] at this;exact this
      simp only[F,g3]
      refine(Qd (a:=ea a' γ') (a':=ea a γ) 0 rs f0 (ZK _ _) λj' r' u' g4 g5 g6=>jf j' r' u' g4 g5 _ _ λd hd=>(λhn=>⟨Ck d hn,hγ d hn⟩) λe=>?_)
      rw[Nat.zero_add] at g6
      by_cases j5:i=j'
      .subst j5;have Cl:listed.getD i false=true:=g6;rw[h1] at Cl;cases Cl
      have Cl:listed.getD j' false=true:=g6
      rw[xY j' (ZB gU Ad e (Fb g4) g5 j5 hd)] at Cl;cases Cl
   rw[eH] at h';have rY:gw c.F c.I c.W I' w':=⟨Im.le_trans U.step.le h'.step.le,λb hb hf=>(h'.step.dz b hb hf).trans (U.step.dz b hb hf),h'.step.dF,h'.step.below⟩;refine⟨rY,h'.own,?_,h'.size,h'.defers⟩;intro t y e;by_cases u5:o.dst=some t
   .have px:(i,t,r.x)∈(fY 0 pre rs).reverse:=by
     rw[List.mem_reverse];have:=Zv u5 (k:=0) lF Ae;rwa[Nat.zero_add] at this
    rw[IC (i:=i) (x:=r.x) _ hL px (by simp only[km];simp) (λe he hp r9=>?_)] at e
    .cases e;exact h'.env t r.x (by rw[u5];simp[n5,Env.get])
    obtain⟨o',k1,k2⟩:=tC e he;by_cases hle:e.1<=i
    .exact hle
    have aW:i≠e.1:=by omega
    have:=E6 t (by unfold slotsOf;rw[List.mem_append];exact .inl (by simp[u5])) e.1 o' k1 aW (by rw[k2,r9]);rw[if_neg om] at this;have ZL:¬e.1=i:=λh=>aW h.symm;rw[km,if_neg ZL,xY e.1 this] at hp;cases hp
   rw[BZ (q:=λe=>listed.getD e.1 false) _ (λe he r9=>?_)] at e
   .have:=U.env t y e;rw[Ck t u5];exact y.up _ _ _ h'.step.le this
   obtain⟨o',k1,k2⟩:=tC e he;have aW:e.1≠i:=λh=>by
    rw[h,lF] at k1;cases k1;exact u5 (by rw[k2,r9])
   simp only[km,if_neg aW]
  let Q':Exit->Act->World->Prop:=λe a' w'=>match e with
   |.normal=>∃γ',(∀t,o.dst≠some t->γ' t=γ t)/\∃I',St ⟨c.W,I,c.n,c.F⟩ I' (fq r.T (ea a' γ') F 0 (mO (iU (λj=>decide (j<i)) 0 rs 0 (H0.map λo _=>o)) r.u)) (n5 o.dst r.x ((fX ((fY 0 pre rs).reverse.filter λe=>decide (e.1<i))++Γ).only (o.looksAt (pre++tail).toArray))) a' w'
   |e=>Q e a' w'
  have hQ:∀e a w,e≠.normal->Q' e a w->Q e a w:=λe a w hn h=>by
   cases e<;>first|exact absurd rfl hn|exact h
  have l6:=kj F (c.W,c.F) I I γ a w Q' ZJ λγ' hγ I' a' w' h'=>⟨γ',hγ,I',h'⟩
  unfold wpOp
  simp only[h2]
  unfold wpList at l6
  by_cases hw:Region.wanted o (yielded (pre++tail).toArray a.tmps)=true
  .rw[if_pos hw] at l6⊢
   rcases l6 with l6|⟨h5,h6⟩
   .exact .inl (Oper.wp_mono (λa' w' h=>h) (Oper.wp_mono (λa' w' ⟨hv,γ',hγ,I',h'⟩=>qt γ' hγ I' a' w' hv h') (ZC hQ l6)))
   exact .inr ⟨h5,let⟨a,w,h⟩:=h6;⟨a,w,hQ _ a w bn h⟩⟩
  rw[if_neg hw] at l6⊢
  obtain⟨γ',hγ,I',h'⟩:=l6
  exact qt γ' hγ I' _ w ⟨undef,rfl⟩ h'
def bc (P:Program) (c:Ctx) (ops:Array Oper) (Q:Exit->Act->World->Prop) (Γ:Env) (H:List (EA->Own)) (os:List Oper) (ms:Meta):Prop:=
 ∃rs,rs.map Rec.nw=ms/\x5 P c.n ops Γ H os rs/\∀γ I' a' w',St c I' (mr (ea a' γ) (Ch H rs)) (x6 Γ os rs) a' w'->Q .normal a' w'
def bc.ZM {ops:Array Oper} {Hf:List (EA->Own)} (k:∀γ I' a' w',St c I' (mr (ea a' γ) Hf) Γ a' w'->Q .normal a' w'):bc P c ops Q Γ Hf [] []:=⟨[],rfl,trivial,k⟩
def bc.nil {ops:Array Oper} {Hf:List (EA->Own)} (k:∀I' a' w',St c I' (mr (ea a' λ_=>Own.gone) Hf) Γ a' w'->Q .normal a' w') (hi:∀t γ,mr ⟨t,γ⟩ Hf=mr ⟨t,λ_=>Own.gone⟩ Hf:=by exactλ_ _=>rfl):bc P c ops Q Γ Hf [] []:=.ZM λγ I' a' w' U=>k I' a' w' (hi a'.tmps γ▸U)
def bc.cons {ops:Array Oper} {Hf:List (EA->Own)} {o:Oper} {os:List Oper} {x:AV} {T:List Nat} {u:Option pD} {ms:Meta} (hu:∀v,u=some v->v.fit) (h:Fa P c.n ops Hf (mO Hf u) T (Γ.only (o.looksAt ops)) o x) (k:bc P c ops Q (n5 o.dst x Γ) (mO Hf u) os ms):
 bc P c ops Q Γ Hf (o::os) ((T,u.map λu=>(u.k,u.aQ))::ms):=
 let⟨rs,h1,h2,h3⟩:=k;⟨⟨x,T,u⟩::rs,by simp[Rec.nw,h1],⟨h,hu,h2⟩,h3⟩
def St.Ql {id:Nat} {pre tail:List Oper} {rs:List Rec} (U:St c I H Γ a w) (hm:P.follows .mixedOrders=true) (gU:Ci pre tail (rs.map Rec.nw)=true) (hd:(pre.all λo=>match o.dst with|some d=>Nat.blt d c.n|none=>true)=true)
 (run:x5 P c.n (pre++tail).toArray Γ (H.map λo _=>o) pre rs) (k:∀γ I' a' w',St c I' (mr (ea a' γ) (Ch (H.map λo _=>o) rs)) (x6 Γ pre rs) a' w'->wpList P (pre++tail).toArray Q tail a' w'):(Code.region id (pre++tail).toArray true).wp P Q a w:=by
 refine wp_region_any hm ?_;obtain⟨hlen,jf,kj⟩:=x5.at (Γ0:=Γ) pre rs 0 _ [] (by simpa[fX] using run) (λe he=>by simp at he);have hf:∀i:Nat,(Array.replicate (pre++tail).length false).getD i false=false:=λi=>by
  rw[Array.getD_eq_getD_getElem?,Array.getElem?_replicate];split<;>rfl
 have:=ZE (P:=P) (c:=c) (H0:=H) (Γ:=Γ) (Q:=Q) gU hlen hd jf (λi o r ho hr=>by simpa using kj i o r ho hr) (λγ I' a' w' h=>by
  rw[<-Qh,<-Qi] at h;exact k γ I' a' w' h) (pre++tail).length (Array.replicate (pre++tail).length false) (λ_=>Own.gone) I a {w with drawn:=w.drawn+1} bn
  (by simpa using List.length_filter_le _ (List.range (pre++tail).length)) (λi hi h=>by rw[hf] at h;cases h) (λi o ho hi=>by rw[hf] at hi;cases hi) (by
    have he:(fY 0 pre rs).reverse.filter (λe=>(Array.replicate (pre++tail).length false).getD e.1 false)=[]:=by
     rw[List.filter_eq_nil_iff];intro e _;rw[hf];simp
    have hh:mr (ea a λ_=>Own.gone) (iU (λi=>(Array.replicate (pre++tail).length false).getD i false) 0 rs 0 (H.map λo _=>o))=H:=by
     rw[Qf λj _=>hf j];simp[mr,Function.comp_def]
    rw[he,hh];exact⟨⟨U.step.le,U.step.dz,U.step.dF,U.step.below.drew⟩,⟨λo ho=>⟨o.gi I I w _ (Im.le_refl I) (λ_ _=>rfl) (U.own.all o ho).1,(U.own.all o ho).2⟩,U.own.apart⟩,U.env,U.size,U.defers⟩)
 simpa using this
def St.gG {id:Nat} {l:List Oper} (ms:Meta) (U:St c I H Γ a w) (hm:P.follows .mixedOrders=true) (gU:se l ms=true) (hd:(l.all λo=>match o.dst with|some d=>Nat.blt d c.n|none=>true)=true)
 (run:bc P c l.toArray Q Γ (H.map λo _=>o) l ms):(Code.region id l.toArray true).wp P Q a w:=by
 obtain⟨rs,h0,run,k⟩:=run;subst h0;have:=U.Ql (id:=id) (Q:=Q) (pre:=l) (tail:=[]) (rs:=rs) hm (by simpa[Ci] using gU) hd (by rw[List.append_nil];exact run) λγ I' a' w' h=>wpList_nil (k γ I' a' w' h);rwa[List.append_nil] at this
end
def Qm {a a':EA} {F:Nat->Own} {Hf:List (EA->Own)}:fq [] a F 0 Hf=fq [] a' F 0 Hf:=by
 apply List.ext_getElem?;intro j;rw[x4,x4];rfl
def pF {k:Nat} {a a':EA} {F:Nat->Own} {Hf:List (EA->Own)} {f:EA->Own} {O:Own} (h:O=f a'):(fq [k] a F 0 Hf).set k O=fq [k] a' F 0 (Hf.set k f):=by
 apply List.ext_getElem?;intro j;rw[x4,List.getElem?_set,List.getElem?_set,x4];have hl:(fq [k] a F 0 Hf).length=Hf.length:=by
  have:∀(n:Nat) (L:List (EA->Own)),(fq [k] a F n L).length=L.length:=by
   intro n L;induction L generalizing n with
   |nil=>rfl
   |cons x L ih=>simp[fq,ih]
  exact this 0 Hf
 rw[hl];by_cases hk:k=j
 .subst hk;by_cases bz:k<Hf.length
  .simp[bz,h]
  simp[bz]
 rw[if_neg hk,if_neg hk];have hc:([k].contains (0+j))=false:=by simp;omega
 rw[hc];rfl
section
variable {P:Program} {c:Ctx} {I:Im} {H:List Own} {Γ:Env} {a:Act} {w:World} {Q:Exit->Act->World->Prop} {ops:Array Oper} {Hf:List (EA->Own)} {os:List Oper} {ms:Meta}
def St.pass {H':List Own} (U:St c I H Γ a w) (h:H=H'):St c I H' Γ a w:=h▸U
def bc.op {o:Oper} {d:Nat} {x:AV} (hg:o.guard=none) (ho:o.dst=some d) (hd:Nat.blt d c.n=true) (h:∀F a,Ok P (fq [] a F 0 Hf) (Γ.only (o.looksAt ops)) true o x)
 (k:bc P c ops Q ((d,x)::Γ) Hf os ms):bc P c ops Q Γ Hf (o::os) (([],none)::ms):=
 bc.cons (u:=none) (x:=x) (λv e=>by cases e) (λF W0 I0 I γ a w Q U kk=>U.op hg ho hd (h F (ea a γ)) λI' a' w' cH=>kk γ (λ_ _=>rfl) I' a' w' (by rw[ho];exact cH.pass Qm)) (by rw[ho];exact k)
def bc.EN {o:Oper} {d:Nat} {x:AV} {G:Bool} (hg:jT ops (Γ.only (o.looksAt ops)) o G) (ho:o.dst=some d) (hd:Nat.blt d c.n=true) (h:∀F a,Ok P (fq [] a F 0 Hf) (Γ.only (o.looksAt ops)) G o x)
 (k:bc P c ops Q ((d,.cond G x)::Γ) Hf os ms):bc P c ops Q Γ Hf (o::os) (([],none)::ms):=
 bc.cons (u:=none) (x:=.cond G x) (λv e=>by cases e) (λF W0 I0 I γ a w Q U kk=>U.EN hg ho hd (h F (ea a γ)) λI' a' w' cH=>kk γ (λ_ _=>rfl) I' a' w' (by rw[ho];exact cH.pass Qm)) (by rw[ho];exact k)
def bc.ZN {o:Oper} {d:Nat} {x:AV} (T:List Nat) (hc:∀F a a',fq T a F 0 Hf=fq T a' F 0 Hf) (hg:o.guard=none) (ho:o.dst=some d) (hd:Nat.blt d c.n=true) (h:∀F a,Ok P (fq T a F 0 Hf) (Γ.only (o.looksAt ops)) true o x)
 (k:bc P c ops Q ((d,x)::Γ) Hf os ms):bc P c ops Q Γ Hf (o::os) ((T,none)::ms):=
 bc.cons (u:=none) (x:=x) (λv e=>by cases e) (λF W0 I0 I γ a w Q U kk=>U.op hg ho hd (h F (ea a γ)) λI' a' w' cH=>kk γ (λ_ _=>rfl) I' a' w' (by rw[ho];exact cH.pass (hc F (ea a γ) (ea a' γ)))) (by rw[ho];exact k)
def bc.ji {o:Oper} {x:AV} {O:Own} (k:Nat)
 (h:∀(F:Nat->Own) (W0:World×(Nat->Prop)) (I0 I:Im) (γ:Nat->Own) (a:Act) (w:World) (Q:Exit->Act->World->Prop),St ⟨W0.1,I0,c.n,W0.2⟩ I (fq [k] (ea a γ) F 0 Hf) (Γ.only (o.looksAt ops)) a w->
   (∀I' a' w',St ⟨W0.1,I0,c.n,W0.2⟩ I' ((fq [k] (ea a γ) F 0 Hf).set k O) (n5 o.dst x (Γ.only (o.looksAt ops))) a' w'->wpList P ops Q [] a' w')->wpList P ops Q [o] a w)
 (r:bc P c ops Q (n5 o.dst x Γ) (Hf.set k λ_=>O) os ms):bc P c ops Q Γ Hf (o::os) (([k],some (k,[]))::ms):=
 bc.cons (u:=some ⟨k,[],λ_=>O⟩) (x:=x) (λv e=>by cases e;intro _ _ _;rfl) (λF W0 I0 I γ a w Q U kk=>h F W0 I0 I γ a w Q U λI' a' w' cH=>kk γ (λ_ _=>rfl) I' a' w' (cH.pass (pF rfl))) r
def St.Cm {x:Own} (k:Nat) (U:St c I (H++[x]) Γ a w) (hk:H[k]?=some Own.gone):St c I (H.set k x) Γ a w:=by
 refine⟨U.step,⟨λo ho=>?_,?_⟩,U.env,U.size,U.defers⟩
 .rcases List.mem_or_eq_of_mem_set ho with ho|rfl
  .exact U.own.all o (List.mem_append_left _ ho)
  exact U.own.all _ bn
 have hn:=U.own.apart;rw[List.pairwise_append] at hn;refine uR hn.1 λb hb=>.inr λy hy e=>?_;exact hn.2.2 y hy x bn b e hb
def St.jj (U:St c I H Γ a w):St c I (H++[Own.gone]) Γ a w:=
 ⟨U.step,⟨λy hy=>by
  rcases List.mem_append.1 hy with hy|hy
  .exact U.own.all y hy
  .obtain rfl:=by simpa using hy
   exact⟨trivial,λb e=>by cases e⟩,
  by rw[List.pairwise_append];exact⟨U.own.apart,by simp,λy _ z hz b _ e=>by obtain rfl:z=_:=List.mem_singleton.1 hz;exact e.elim⟩⟩,U.env,U.size,U.defers⟩
def mP {k:Nat} {a:EA} {F:Nat->Own} {f:EA->Own} (h:Hf[k]?=some f):(fq [k] a F 0 Hf)[k]?=some (f a):=by
 rw[x4,h];simp
variable {T T' E ty:TypeId} {p:String} {af:Array Edge} {ag:Bool} {n m d:Nat} {zv:Value} {l lx:List AV} {z y:Operand}
def Fc {a:Act} {b:Nat} (h:a.tmps.getD d undef=.pointer (some ⟨b,0,none⟩)):pC T l (a.tmps.getD d undef)=Own.box b T l:=by rw[h];rfl
def wF {k:Nat} {g:Value->Own} (h:∀v v',v=v'->g v=g v'):∀v,(some (⟨k,[d],λa=>g (a.tmps.getD d undef)⟩:pD))=some v->v.fit:=λv e=>by
 cases e;intro a a' hh;exact h _ _ (hh d bn).1
def bc.alloc (k:Nat) (hk:Hf[k]?=some λ_=>Own.gone) (hd:Nat.blt d c.n=true) (hT:Ty P T ag n m zv) (hz:∀I,bN I l zv.cells.toList)
 (r:bc P c ops Q ((d,AV.x3)::Γ) (Hf.set k λa=>pC T l (a.tmps.getD d undef)) os ms):bc P c ops Q Γ Hf (⟨some d,.alloc T,ty,p,af,none⟩::os) (([k],some (k,[d]))::ms):=
 bc.cons (u:=some ⟨k,[d],λa=>pC T l (a.tmps.getD d undef)⟩) (x:=AV.x3) (wF λv v' e=>e▸rfl) (λF W0 I0 I γ a w Q U kk=>U.alloc hd hT hz λb I' a' w' cH=>by
  have hv:a'.tmps.getD d undef=.pointer (some ⟨b,0,none⟩):=cH.env d (.val (.pointer (some ⟨b,0,none⟩))) (by simp[Env.get]);refine kk γ (λ_ _=>rfl) I' a' w' ?_;have h1:=(cH.Cm k (mP hk)).pass (pF (a':=ea a' γ) (f:=λa=>pC T l (a.tmps.getD d undef)) (Fc hv).symm);exact⟨h1.step,h1.own,λt x e=>by
   simp only[n5,Env.get] at e;cases hb:Nat.beq d t with
   |true=>
    rw[hb] at e;simp only[cond_true] at e;cases e
    obtain rfl:d=t:=Nat.eq_of_beq_eq_true hb
    exact⟨b,hv⟩
   |false=>rw[hb] at e;exact h1.env t x (by simp only[Env.get,hb];exact e),h1.size,h1.defers⟩) r
def bc.qu (k:Nat) (hk:Hf[k]?=some λa=>pC T' l (a.tmps.getD d undef)) (hT:Ty P T true n m zv) (hy:Env.get d (Γ.only ((⟨none,.store T (.tmp d) z,ty,p,af,none⟩:Oper).looksAt ops))=some AV.x3)
 (hz:At (Γ.only ((⟨none,.store T (.tmp d) z,ty,p,af,none⟩:Oper).looksAt ops)) true z (.agg lx)) (hn:lx.length=n) (hl:l.length=n)
 (r:bc P c ops Q Γ (Hf.set k λa=>pC T' lx (a.tmps.getD d undef)) os ms):bc P c ops Q Γ Hf (⟨none,.store T (.tmp d) z,ty,p,af,none⟩::os) (([k],some (k,[d]))::ms):=
 bc.cons (u:=some ⟨k,[d],λa=>pC T' lx (a.tmps.getD d undef)⟩) (x:=AV.any) (wF λv v' e=>e▸rfl) (λF W0 I0 I γ a w Q U kk=>by
  obtain⟨b,hb⟩:=U.env d _ hy;obtain⟨cs,hv,xU⟩:=hz I a U.env rfl;have fV:=mP (a:=ea a γ) (F:=F) hk;rw[Fc hb] at fV;obtain⟨w',hr,cH⟩:=U.EU (q:=0) (lx:=lx) (v:=a.eval z) k hT fV (by rw[hv];exact xU) hn (by rw[hl];simp);have e:gj l 0 lx=lx:=by simp[gj];omega
  rw[e] at cH;exact jU rfl (z6 hb rfl hr (kk γ (λ_ _=>rfl) I _ w' (cH.pass (pF (a':=ea a γ) (f:=λa=>pC T' lx (a.tmps.getD d undef)) (Fc hb).symm))))) r
def St.oC (k:Nat) (U:St c I H Γ a w) (hd:Env.get d Γ=some AV.x3) (hk:H[k]?=some (pC T l (a.tmps.getD d undef))):∃b,St c I (H.set k (Own.box b T l)) ((d,.val (.pointer (some ⟨b,0,none⟩)))::Γ) a w:=by
 obtain⟨b,hb⟩:∃b,a.tmps.getD d undef=.pointer (some ⟨b,0,none⟩):=U.env d _ hd;rw[Fc hb] at hk;have e:H.set k (Own.box b T l)=H:=by
  apply List.ext_getElem?;intro j;rw[List.getElem?_set];split
  .rename_i e;subst e;rw[hk];simp[(List.getElem?_eq_some_iff.1 hk).1]
  rfl
 refine⟨b,U.step,by rw[e];exact U.own,λt x e=>?_,U.size,U.defers⟩;simp only[Env.get] at e;cases oB:Nat.beq d t with
 |true=>
  rw[oB] at e;simp only[cond_true] at e;cases e
  obtain rfl:d=t:=Nat.eq_of_beq_eq_true oB
  exact hb
 |false=>rw[oB] at e;exact U.env t x (by simpa using e)
def bc.Fe {d':Nat} {sz:Nat} {l l2:List (List AV)} (k:Nat) (hk:Hf[k]?=some λa=>Own.row (a.tmps.getD d' undef) E sz l) (hd:Nat.blt d c.n=true) (hU:P.underlying T=some (.slice E)) (hE:Ty P E ag sz m zv) (gT:zv.cells.size=sz)
 (hz:At (Γ.only ((⟨some d,.call ⟨.builtin .append,#[.tmp d',z],#[T,T]⟩,ty,p,af,none⟩:Oper).looksAt ops)) true z (.rows sz l2))
 (hb:(l.length+l2.length)*m<=140737488355328/\l.length+l2.length<=140737488355328)
 (r:bc P c ops Q ((d,.rows sz (l++l2))::Γ) (Hf.set k λ_=>Own.gone) os ms):bc P c ops Q Γ Hf (⟨some d,.call ⟨.builtin .append,#[.tmp d',z],#[T,T]⟩,ty,p,af,none⟩::os) (([k],some (k,[]))::ms):=
 bc.cons (u:=some ⟨k,[],λ_=>Own.gone⟩) (x:=.rows sz (l++l2)) (λv e=>by cases e;intro _ _ _;rfl) (λF W0 I0 I γ a w Q U kk=>by
  have fV:=mP (a:=ea a γ) (F:=F) hk;obtain⟨v',w',hr,cH⟩:=U.EY (ty:=ty) k hU hE gT fV (hz I a U.env rfl) hb.1 (by simp only[maxLen];omega);refine jU rfl ?_;unfold Oper.wp;have e1:a.eval (.tmp d')=a.tmps.getD d' undef:=rfl;simp only[execOp,resolve,invoke,builtin,Sem.run_bind,Sem.run_pure,Result.andThen_ok,List.map_toArray,List.map_cons,List.map_nil,e1,hr];have wG:=cH.nW cH.step (Im.le_refl _) cH.own hd (x:=.val v') rfl;obtain⟨I',fH,hf⟩:=wG.wy k (by rw[List.getElem?_set_self (List.getElem?_eq_some_iff.1 fV).1]);rw[List.set_set] at fH;have oD:=fH.z7 (t:=d) (by simp[Env.get]) hf;refine kk γ (λ_ _=>rfl) I' _ w' ((oD.le λt x e=>?_).pass (pF rfl));simp only[n5,Env.get] at e⊢;cases oB:Nat.beq d t with
  |true=>rw[oB] at e;exact e
  |false=>rw[oB] at e;simpa using e) r
def AV.nx:AV:=⟨λ_ v=>v.oneCell'=true,λ_ _ _ _ h=>h⟩
def bc.Jk {v:Value} {sz:Nat} {l l2:List (List AV)} (k:Nat) (hk:Hf[k]?=some λ_=>Own.row v E sz l) (hd:Nat.blt d c.n=true) (hU:P.underlying T=some (.slice E)) (hE:Ty P E ag sz m zv) (gT:zv.cells.size=sz)
 (hy:At (Γ.only ((⟨some d,.call ⟨.builtin .append,#[y,z],#[T,T]⟩,ty,p,af,none⟩:Oper).looksAt ops)) true y (.val v)) (hz:At (Γ.only ((⟨some d,.call ⟨.builtin .append,#[y,z],#[T,T]⟩,ty,p,af,none⟩:Oper).looksAt ops)) true z (.rows sz l2))
 (hb:(l.length+l2.length)*m<=140737488355328/\l.length+l2.length<=140737488355328)
 (r:bc P c ops Q ((d,AV.nx)::Γ) (Hf.set k λa=>Own.row (a.tmps.getD d undef) E sz (l++l2)) os ms):bc P c ops Q Γ Hf (⟨some d,.call ⟨.builtin .append,#[y,z],#[T,T]⟩,ty,p,af,none⟩::os) (([k],some (k,[d]))::ms):=
 bc.cons (u:=some ⟨k,[d],λa=>Own.row (a.tmps.getD d undef) E sz (l++l2)⟩) (x:=AV.nx) (wF (g:=λv=>Own.row v E sz (l++l2)) λv v' e=>e▸rfl) (λF W0 I0 I γ a w Q U kk=>U.append k hd hU hE gT hy hz (mP hk) hb λv' a' w' cH=>by
  have hv:a'.tmps.getD d undef=v':=cH.env d (.val v') (by simp[Env.get]);have x8:=cH.own.all (Own.row v' E sz (l++l2)) (List.mem_of_getElem? (i:=k) (by rw[List.getElem?_set_self (List.getElem?_eq_some_iff.1 (mP (a:=ea a γ) (F:=F) hk)).1]));have h1:=cH.pass (pF (a':=ea a' γ) (f:=λa=>Own.row (a.tmps.getD d undef) E sz (l++l2)) (by rw[hv]));exact kk γ (λ_ _=>rfl) I a' w' ⟨h1.step,h1.own,λt x e=>by
   simp only[n5,Env.get] at e;cases hb:Nat.beq d t with
   |true=>
    rw[hb] at e;simp only[cond_true] at e;cases e
    obtain rfl:d=t:=Nat.eq_of_beq_eq_true hb
    show(a'.tmps.getD d undef).oneCell'=true
    rw[hv]
    obtain⟨_,⟨_,rfl|⟨q,rfl,_⟩⟩|⟨b,cap,cur,rfl,_⟩⟩:=x8.1<;>rfl
   |false=>rw[hb] at e;exact h1.env t x (by simp only[Env.get,hb];exact e),h1.size,h1.defers⟩) r
def bc.Ff {d' b q:Nat} {l:List AV} (k:Nat) (hk:Hf[k]?=some λ_=>Own.box b T' l) (hT:Ty P T false 1 m zv) (hy:At (Γ.only ((⟨none,.store T y (.tmp d'),ty,p,af,none⟩:Oper).looksAt ops)) true y (.val (.pointer (some ⟨b,q,none⟩))))
 (hz:Env.get d' (Γ.only ((⟨none,.store T y (.tmp d'),ty,p,af,none⟩:Oper).looksAt ops))=some AV.nx) (hq:Nat.blt q l.length=true)
 (r:bc P c ops Q Γ (Hf.set k λa=>Own.box b T' (l.set q (.val (a.tmps.getD d' undef)))) os ms):bc P c ops Q Γ Hf (⟨none,.store T y (.tmp d'),ty,p,af,none⟩::os) (([k],some (k,[d']))::ms):=
 bc.cons (u:=some ⟨k,[d'],λa=>Own.box b T' (l.set q (.val (a.tmps.getD d' undef)))⟩) (x:=AV.any) (wF (g:=λv=>Own.box b T' (l.set q (.val v))) λv v' e=>e▸rfl) (λF W0 I0 I γ a w Q U kk=>by
  have hb:=hy I a U.env rfl;have h1:(a.tmps.getD d' undef).oneCell'=true:=U.env d' _ hz;have hc:=B2 h1;have PF:q<l.length:=by simpa using hq
  obtain⟨w',hr,cH⟩:=U.EU (q:=q) (lx:=[.val (a.tmps.getD d' undef)]) (v:=a.tmps.getD d' undef) k hT (mP hk) (by rw[hc];exact⟨⟨rfl,h1⟩,trivial⟩) rfl ig;rw[PG PF] at cH;exact jU rfl (z6 hb rfl hr (kk γ (λ_ _=>rfl) I _ w' (cH.pass (pF (f:=λa=>Own.box b T' (l.set q (.val (a.tmps.getD d' undef)))) rfl))))) r
def AV.bare:AV:=⟨λ_ v=>xN v,λ_ _ _ _ h=>h⟩
def wH {H:List Own} {g:Bool} {d:Option Tmp} {gd:Option (Nat×Bool)} {sz:Nat} (hT:P.underlying T=some (.slice E)) (hE:Ty P E ag sz m zv):Ok P H Γ g ⟨d,.buildSlice T 0 #[],ty,p,af,gd⟩ AV.bare:=
 λbase I a w K Q he hm hw hg k=>by
  have il:(sizeOf E).run P w=.ok sz w:=hE.size;have hr:(Instr.buildSlice T 0 ((#[]:Array (Nat×Operand)).map λ(i,x)=>(i,a.eval x))).run P w=.ok (.slice (some ⟨w.heap.size,0,none⟩) 0 0) (w.alloc (.cells #[] E)):=by
   simp only[Instr.buildSlice,Sem.run_bind,run_underlying hT,Result.andThen_ok,il];have e0:Array.range 0=#[]:=rfl;simp[Instr.fill,E1,e0]
  unfold Oper.wp;simp only[execOp,Sem.run_bind,hr,Result.andThen_ok,Sem.run_pure,Oper.upon_value];exact k _ I _ (.inr ⟨⟨w.heap.size,0,none⟩,rfl,rfl⟩) (Step.alloc hm (.cells #[] E))
def Fg {H:List Own} {g:Bool} {d:Option Tmp} {gd:Option (Nat×Bool)} {sz:Nat} {l2:List (List AV)} (hU:P.underlying T=some (.slice E)) (hE:Ty P E ag sz m zv) (gT:zv.cells.size=sz) (hy:At Γ g y AV.bare) (hz:At Γ g z (.rows sz l2)) (hb:g=true->l2.length*m<=140737488355328/\l2.length<=140737488355328):
 Ok P H Γ g ⟨d,.call ⟨.builtin .append,#[y,z],#[T,T]⟩,ty,p,af,gd⟩ (.rows sz l2):=
 λbase I a w K Q he hm hw hg k=>by
  have uU:xN (a.eval y):=hy I a he hg;have u7:St ⟨w,I,0,lV⟩ I [] [] {tmps:=#[],defers:=[]} w:=⟨gw.refl hm,cy.nil _ _ _,λt x e=>by simp[Env.get] at e,rfl,rfl⟩;have il:=u7.EW (sz:=sz) E uU;obtain⟨v',w',hr,fH⟩:=il.EY (ty:=ty) 0 hU hE gT rfl (hz I a he hg) (by simpa using(hb hg).1) (by have:=(hb hg).2;simp only[maxLen];simp;omega);obtain⟨I',oD,hv⟩:=fH.wy 0 rfl;unfold Oper.wp;simp only[execOp,resolve,invoke,builtin,Sem.run_bind,Sem.run_pure,Result.andThen_ok,List.map_toArray,List.map_cons,List.map_nil,hr];exact k v' I' w' hv oD.step.all
def bc.Cn {sz:Nat} {l2:List (List AV)} (k:Nat) (hk:Hf[k]?=some λ_=>Own.gone) (hd:Nat.blt d c.n=true) (hU:P.underlying T=some (.slice E)) (hE:Ty P E ag sz m zv) (gT:zv.cells.size=sz)
 (hy:At (Γ.only ((⟨some d,.call ⟨.builtin .append,#[y,z],#[T,T]⟩,ty,p,af,none⟩:Oper).looksAt ops)) true y AV.bare) (hz:At (Γ.only ((⟨some d,.call ⟨.builtin .append,#[y,z],#[T,T]⟩,ty,p,af,none⟩:Oper).looksAt ops)) true z (.rows sz l2))
 (hb:l2.length*m<=140737488355328/\l2.length<=140737488355328)
 (r:bc P c ops Q ((d,AV.nx)::Γ) (Hf.set k λa=>Own.row (a.tmps.getD d undef) E sz l2) os ms):bc P c ops Q Γ Hf (⟨some d,.call ⟨.builtin .append,#[y,z],#[T,T]⟩,ty,p,af,none⟩::os) (([k],some (k,[d]))::ms):=
 bc.cons (u:=some ⟨k,[d],λa=>Own.row (a.tmps.getD d undef) E sz l2⟩) (x:=AV.nx) (wF (g:=λv=>Own.row v E sz l2) λv v' e=>e▸rfl) (λF W0 I0 I γ a w Q U kk=>by
  have uU:xN (a.eval y):=hy I a U.env rfl;have hlen:=List.getElem?_eq_some_iff.1 (mP (a:=ea a γ) (F:=F) hk);have il:=(U.EW (sz:=sz) E uU).Cm k (mP (a:=ea a γ) (F:=F) hk);have mw:((fq [k] (ea a γ) F 0 Hf).set k (Own.row (a.eval y) E sz []))[k]?=some (Own.row (a.eval y) E sz []):=by rw[List.getElem?_set_self hlen.1]
  obtain⟨v',w',hr,cH⟩:=il.EY (ty:=ty) k hU hE gT mw (hz I a U.env rfl) (by simpa using hb.1) (by simp only[maxLen];simp;omega);rw[List.set_set,List.nil_append] at cH;refine jU rfl ?_;unfold Oper.wp;simp only[execOp,resolve,invoke,builtin,Sem.run_bind,Sem.run_pure,Result.andThen_ok,List.map_toArray,List.map_cons,List.map_nil,hr];have x8:=cH.own.all (Own.row v' E sz l2) (List.mem_of_getElem? (i:=k) (by rw[List.getElem?_set_self hlen.1]));have h1:v'.oneCell'=true:=by
   obtain⟨_,⟨_,rfl|⟨q,rfl,_⟩⟩|⟨b,cap,cur,rfl,_⟩⟩:=x8.1<;>rfl
  have wG:=cH.nW (d:=d) (v:=v') (x:=AV.nx) cH.step (Im.le_refl _) cH.own hd h1;refine kk γ (λ_ _=>rfl) I _ w' (wG.pass (pF (a':=ea (a.put (some d) v') γ) (f:=λa=>Own.row (a.tmps.getD d undef) E sz l2) ?_));have:(a.put (some d) v').tmps.getD d undef=v':=by
   have ko:d<c.n:=by simpa using hd
   have db:=U.size;simp[Act.put,db,ko]
  rw[this]) r
end
end Go.Proofs.YtldbakcpcfdlaaaGreat
