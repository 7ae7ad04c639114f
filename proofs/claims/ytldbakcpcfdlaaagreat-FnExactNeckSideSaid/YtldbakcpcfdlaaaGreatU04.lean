/- Part 4: rules of the proofs. -/
import Derived.Test.YtldbakcpcfdlaaaGreatU03
set_option linter.all false
namespace Go.Proofs.YtldbakcpcfdlaaaGreat
open Go Go.RowKit
structure EA where
 tmps:Array Value
 g:Nat->Own
abbrev ea (a:Act) (γ:Nat->Own):EA:=⟨a.tmps,γ⟩
structure gj where
 k:Nat
 aA:List Nat
 f:EA->Own
structure Rec where
 x:AV
 T:List Nat
 u:Option gj
def gj.fit (u:gj):Prop:=∀a a':EA,(∀d∈u.aA,a.tmps.getD d undef=a'.tmps.getD d undef/\a.g d=a'.g d)->u.f a=u.f a'
def gU (d:Option Nat) (x:AV) (Γ:Env):Env:=match d with|some d=>(d,x)::Γ|none=>Γ
def eQ (H:List (EA->Own)):Option gj->List (EA->Own)
 |none=>H
 |some u=>H.set u.k u.f
def cellAt (S:Nat->Bool) (k:Nat):Nat->List Rec->(EA->Own)->EA->Own
 |_,[],f=>f
 |i,r::rs,f=>cellAt S k (i+1) rs (match r.u with|none=>f|some u=>bif S i&&Nat.beq u.k k then u.f else f)
def cU (S:Nat->Bool) (i:Nat) (rs:List Rec):Nat->List (EA->Own)->List (EA->Own)
 |_,[]=>[]
 |k,f::fs=>cellAt S k i rs f::cU S i rs (k+1) fs
def cr (T:List Nat) (a:EA) (F:Nat->Own):Nat->List (EA->Own)->List Own
 |_,[]=>[]
 |k,f::fs=>(bif T.contains k then f a else F k)::cr T a F (k+1) fs
def eG (a:EA) (H:List (EA->Own)):List Own:=H.map λf=>f a
def gm {S:Nat->Bool} {i:Nat} {rs:List Rec}:∀(k:Nat) (H:List (EA->Own)) (j:Nat),(cU S i rs k H)[j]?=(H[j]?).map (cellAt S (k+j) i rs)
 |_,[],j=>by simp[cU]
 |k,f::fs,0=>by simp[cU]
 |k,f::fs,j+1=>by
  simp only[cU,List.getElem?_cons_succ];rw[gm (k+1) fs j];have e:k+1+j=k+(j+1):=by omega
  rw[e]
def kv {T:List Nat} {a:EA} {F:Nat->Own}:∀(k:Nat) (H:List (EA->Own)) (j:Nat),(cr T a F k H)[j]?=(H[j]?).map (λf=>bif T.contains (k+j) then f a else F (k+j))
 |_,[],j=>by simp[cr]
 |k,f::fs,0=>by simp[cr]
 |k,f::fs,j+1=>by
  simp only[cr,List.getElem?_cons_succ];rw[kv (k+1) fs j];have e:k+1+j=k+(j+1):=by omega
  rw[e]
def ov {S:Nat->Bool} {i:Nat} {rs:List Rec}:∀(k:Nat) (H:List (EA->Own)),(cU S i rs k H).length=H.length
 |_,[]=>rfl
 |k,f::fs=>by simp[cU,ov (k+1) fs]
def mU {S S':Nat->Bool} {k:Nat}:∀(i:Nat) (rs:List Rec) (f:EA->Own),(∀(j:Nat) (r:Rec) (u:gj),rs[j]?=some r->r.u=some u->u.k=k->S (i+j)=S' (i+j))->cellAt S k i rs f=cellAt S' k i rs f
 |_,[],_,_=>rfl
 |i,r::rs,f,h=>by
  have ih:=λf=>mU (S:=S) (S':=S') (k:=k) (i+1) rs f λj r' u h1 h2 h3=>by
   have:=h (j+1) r' u (by simpa using h1) h2 h3;have e:i+1+j=i+(j+1):=by omega
   rw[e];exact this
  simp only[cellAt];rw[ih];cases hu:r.u with
  |none=>rfl
  |some u=>
   simp only[]
   cases hb:Nat.beq u.k k with
   |false=>simp
   |true=>rw[show S i=S' i from h 0 r u rfl hu (Nat.eq_of_beq_eq_true hb)]
def qS {S:Nat->Bool} {k:Nat}:∀(i:Nat) (rs:List Rec) (f:EA->Own),(∀j,i<=j->S j=false)->cellAt S k i rs f=f
 |_,[],_,_=>rfl
 |i,r::rs,f,h=>by
  simp only[cellAt];rw[qS (i+1) rs _ λj hj=>h j om];cases r.u with
  |none=>rfl
  |some u=>simp[h i (Nat.le_refl _)]
def uR {S:Nat->Bool} {k:Nat}:∀(i:Nat) (rs:List Rec) (f:EA->Own) (j:Nat) (r:Rec) (u:gj),rs[j]?=some r->r.u=some u->u.k=k->S (i+j)=true->
 (∀(j':Nat) (r':Rec) (u':gj),rs[j']?=some r'->r'.u=some u'->u'.k=k->j<j'->S (i+j')=false)->cellAt S k i rs f=u.f
 |_,[],_,_,_,_,h,_,_,_,_=>by simp at h
 |i,r0::rs,f,0,r,u,h1,h2,h3,h4,h5=>by
  simp at h1;subst h1;simp only[cellAt,h2];have hb:Nat.beq u.k k=true:=by rw[h3];exact Nat.beq_refl k
  have AU:S i=true:=h4;rw[hb,AU];simp only[Bool.and_self,cond_true];have:=mU (S:=S) (S':=λ_=>false) (k:=k) (i+1) rs u.f λj' r' u' g1 g2 g3=>by
   have:=h5 (j'+1) r' u' (by simpa using g1) g2 g3 om;rw[show i+1+j'=i+(j'+1) from by omega];exact this
  rw[this];exact qS _ _ _ λ_ _=>rfl
 |i,r0::rs,f,j+1,r,u,h1,h2,h3,h4,h5=>by
  simp only[cellAt];exact uR (i+1) rs _ j r u (by simpa using h1) h2 h3 (by rw[show i+1+j=i+(j+1) from by omega];exact h4) λj' r' u' g1 g2 g3 g4=>by
   have:=h5 (j'+1) r' u' (by simpa using g1) g2 g3 om;rw[show i+1+j'=i+(j'+1) from by omega];exact this
def uS {S:Nat->Bool} {k:Nat} {a a':EA}:∀(i:Nat) (rs:List Rec) (f:EA->Own),f a=f a'->(∀(j:Nat) (r:Rec) (u:gj),rs[j]?=some r->r.u=some u->S (i+j)=true->u.f a=u.f a')->cellAt S k i rs f a=cellAt S k i rs f a'
 |_,[],_,h,_=>h
 |i,r::rs,f,h,hd=>by
  simp only[cellAt];refine uS (i+1) rs _ ?_ λj r' u h1 h2 h3=>hd (j+1) r' u (by simpa using h1) h2 (by rw[show i+(j+1)=i+1+j from by omega];exact h3);cases hu:r.u with
  |none=>exact h
  |some u=>
   simp only[]
   cases hb:S i&&Nat.beq u.k k with
   |false=>exact h
   |true=>exact hd 0 r u rfl hu (by simp only[Bool.and_eq_true] at hb;exact hb.1)
def uT {S:Nat->Bool} {i:Nat} {r:Rec} {rs:List Rec} {H:List (EA->Own)} (hS:S i=true):cU S (i+1) rs 0 (eQ H r.u)=cU S i (r::rs) 0 H:=by
 apply List.ext_getElem?;intro j;rw[gm,gm];cases hu:r.u with
 |none=>simp[eQ,cellAt,hu]
 |some u=>
  simp only[eQ,List.getElem?_set]
  by_cases hk:u.k=j
  .subst hk
   by_cases hl:u.k<H.length
   .simp[hl,cellAt,hu,hS]
   simp[hl]
  rw[if_neg hk]
  have hb:Nat.beq u.k j=false:=by
   cases hb:Nat.beq u.k j with
   |false=>rfl
   |true=>exact absurd (Nat.eq_of_beq_eq_true hb) hk
  cases H[j]? with
  |none=>rfl
  |some f=>simp[cellAt,hu,hb]
def uU {S:Nat->Bool} {i:Nat} {rs:List Rec} {H:List (EA->Own)} (h:∀j,i<=j->S j=false):cU S i rs 0 H=H:=by
 apply List.ext_getElem?;intro j;rw[gm];cases H[j]? with
 |none=>rfl
 |some f=>simp[qS i rs f h]
def ow (P:Program) (n:Nat) (ops:Array Oper) (H H':List (EA->Own)) (T:List Nat) (Γ:Env) (o:Oper) (x:AV):Prop:=
 ∀(F:Nat->Own) (W0:World×(Nat->Prop)) (I0 I:Im) (γ:Nat->Own) (a:Act) (w:World) (Q:Exit->Act->World->Prop),St ⟨W0.1,I0,n,W0.2⟩ I (cr T (ea a γ) F 0 H) Γ a w->
  (∀γ',(∀t,o.dst≠some t->γ' t=γ t)->∀I' a' w',St ⟨W0.1,I0,n,W0.2⟩ I' (cr T (ea a' γ') F 0 H') (gU o.dst x Γ) a' w'->wpList P ops Q [] a' w')->wpList P ops Q [o] a w
def kx (P:Program) (n:Nat) (ops:Array Oper):Env->List (EA->Own)->List Oper->List Rec->Prop
 |_,_,[],[]=>True
 |Γ,H,o::os,r::rs=>ow P n ops H (eQ H r.u) r.T (Γ.only (o.looksAt ops)) o r.x/\(∀u,r.u=some u->u.fit)/\kx P n ops (gU o.dst r.x Γ) (eQ H r.u) os rs
 |_,_,_,_=>False
def cq:Nat->List Oper->List Rec->List fY
 |k,o::os,r::rs=>match o.dst with|some d=>(k,d,r.x)::cq (k+1) os rs|none=>cq (k+1) os rs
 |_,_,_=>[]
def qT:∀(k:Nat) (os:List Oper) (rs:List Rec),(cq k os rs).Pairwise (λe f=>e.1<f.1)/\∀e∈cq k os rs,k<=e.1
 |k,[],_=>by simp[cq]
 |k,o::os,[]=>by simp[cq]
 |k,o::os,r::rs=>by
  have ih:=qT (k+1) os rs;simp only[cq];split
  .refine⟨List.pairwise_cons.2 ⟨λe he=>by have:=ih.2 e he;simp;omega,ih.1⟩,λe he=>?_⟩;rcases List.mem_cons.1 he with rfl|he
   .simp
   have:=ih.2 e he;omega
  exact⟨ih.1,λe he=>by have:=ih.2 e he;omega⟩
def uV {e:fY}:∀{k:Nat} {os:List Oper} {rs:List Rec},e∈cq k os rs->∃i o r,os[i]?=some o/\rs[i]?=some r/\e.1=k+i/\o.dst=some e.2.1/\e.2.2=r.x
 |k,[],_,h=>by simp[cq] at h
 |k,o::os,[],h=>by simp[cq] at h
 |k,o::os,r::rs,h=>by
  simp only[cq] at h;have key:e∈cq (k+1) os rs->∃i o' r',(o::os)[i]?=some o'/\(r::rs)[i]?=some r'/\e.1=k+i/\o'.dst=some e.2.1/\e.2.2=r'.x:=λh=>by
   obtain⟨i,o',r',h1,h2,h3,h4⟩:=uV h;exact⟨i+1,o',r',by simpa using h1,by simpa using h2,by omega,h4⟩
  split at h
  .rename_i d hd;rcases List.mem_cons.1 h with rfl|h
   .exact⟨0,o,r,rfl,rfl,rfl,hd,rfl⟩
   exact key h
  exact key h
def AW {i d:Nat} {o:Oper} {r:Rec} (hd:o.dst=some d):∀{k:Nat} {os:List Oper} {rs:List Rec},os[i]?=some o->rs[i]?=some r->(k+i,d,r.x)∈cq k os rs:=by
 induction i with
 |zero=>intro k os rs h1 h2;cases os<;>cases rs<;>simp at h1 h2;subst h1 h2;simp[cq,hd]
 |succ i ih=>
  intro k os rs h1 h2
  cases os with
  |nil=>simp at h1
  |cons o' os=>cases rs with
   |nil=>simp at h2
   |cons r' rs=>
    simp at h1 h2
    have:=ih (k:=k+1) h1 h2
    rw[show k+(i+1)=k+1+i from by omega]
    simp only[cq]
    split
    .exact List.mem_cons_of_mem _ this
    exact this
def ky (Γ:Env):List Oper->List Rec->Env
 |o::os,r::rs=>ky (gU o.dst r.x Γ) os rs
 |_,_=>Γ
def uW:∀(os:List Oper) (rs:List Rec) (k:Nat) (Γ:Env),ky Γ os rs=ck (cq k os rs).reverse++Γ
 |[],_,_,_=>by simp[ky,cq,ck]
 |_::_,[],_,_=>by simp[ky,cq,ck]
 |o::os,r::rs,k,Γ=>by
  rw[ky,uW os rs (k+1)];simp only[cq];cases o.dst with
  |none=>rfl
  |some d=>simp[ck,gU]
def mV (H:List (EA->Own)):List Rec->List (EA->Own)
 |r::rs=>mV (eQ H r.u) rs
 |[]=>H
def uX:∀(rs:List Rec) (i:Nat) (H:List (EA->Own)),mV H rs=cU (λ_=>true) i rs 0 H
 |[],i,H=>by
  apply List.ext_getElem?;intro j;rw[gm];show H[j]?=_;cases H[j]?<;>rfl
 |r::rs,i,H=>by rw[mV,uX rs (i+1),uT rfl]
def kx.at {P:Program} {n:Nat} {ops:Array Oper} {Γ0:Env}:∀(os:List Oper) (rs:List Rec) (k:Nat) (H:List (EA->Own)) (done:List fY),kx P n ops (ck done++Γ0) H os rs->(∀e∈done,e.1<k)->
 os.length=rs.length/\(∀(i:Nat) (r:Rec) (u:gj),rs[i]?=some r->r.u=some u->u.fit)/\∀(i:Nat) (o:Oper) (r:Rec),os[i]?=some o->rs[i]?=some r->
  ow P n ops (cU (λj=>decide (j<k+i)) k rs 0 H) (eQ (cU (λj=>decide (j<k+i)) k rs 0 H) r.u) r.T ((ck (((cq k os rs).reverse++done).filter λe=>decide (e.1<k+i))++Γ0).only (o.looksAt ops)) o r.x
 |[],[],_,_,_,_,_=>⟨rfl,λi r u h=>by simp at h,λi o r h=>by simp at h⟩
 |o::os,r::rs,k,H,done,h,hd=>by
  obtain⟨h1,hf,h2⟩:=h;have e0:gU o.dst r.x (ck done++Γ0)=ck (match o.dst with|some d=>(k,d,r.x)::done|none=>done)++Γ0:=by
   cases o.dst with
   |none=>rfl
   |some d=>simp[gU,ck]
  rw[e0] at h2;have ih:=kx.at os rs (k+1) (eQ H r.u) _ h2 (λe he=>by
   split at he
   .rcases List.mem_cons.1 he with rfl|he
    .simp
    have:=hd e he;omega
   have:=hd e he;omega)
  have mB:(cq k (o::os) (r::rs)).reverse++done=(cq (k+1) os rs).reverse++(match o.dst with|some d=>(k,d,r.x)::done|none=>done):=by
   simp only[cq];cases o.dst with
   |none=>rfl
   |some d=>simp
  refine⟨by simp[ih.1],λi r' u g1 g2=>?_,λi o' r' ho hr=>?_⟩
  .cases i with
   |zero=>simp at g1;subst g1;exact hf u g2
   |succ i=>exact ih.2.1 i r' u (by simpa using g1) g2
  rw[mB];cases i with
  |zero=>
   simp at ho hr;subst ho hr
   have fM:((cq (k+1) os rs).reverse++(match o.dst with|some d=>(k,d,r.x)::done|none=>done)).filter (λe=>decide (e.1<k+0))=done:=by
    rw[List.filter_append];have e1:(cq (k+1) os rs).reverse.filter (λe=>decide (e.1<k+0))=[]:=by
     rw[List.filter_eq_nil_iff];intro e he;have:=(qT (k+1) os rs).2 e (List.mem_reverse.1 he);simp;omega
    have e2:done.filter (λe=>decide (e.1<k+0))=done:=by
     rw[List.filter_eq_self];intro e he;simpa using hd e he
    rw[e1];split
    .rw[List.filter_cons];simp only[Nat.add_zero,Nat.lt_irrefl,decide_false,Bool.false_eq_true,if_false,List.nil_append];simpa using e2
    simpa using e2
   rw[fM,uU λj hj=>by simp;omega]
   exact h1
  |succ i=>
   have:=ih.2.2 i o' r' (by simpa using ho) (by simpa using hr)
   rw[uT dF] at this
   rw[show k+(i+1)=k+1+i from by omega]
   exact this
 |[],_::_,_,_,_,h,_=>h.elim
 |_::_,[],_,_,_,h,_=>h.elim
abbrev Meta:=List (List Nat×Option (Nat×List Nat))
def rp:Nat->Meta->Meta
 |0,l=>l
 |n+1,l=>([],none)::rp n l
def Rec.fi (r:Rec):List Nat×Option (Nat×List Nat):=(r.T,r.u.map λu=>(u.k,u.aA))
def gV (l:List Oper) (ms:Meta):Bool:=
 let C:=dw [] l
 let before:=λ(i j:Nat)=>if j<i then(C.getD i []).contains j else(C.getD j []).contains i
 (l.zipIdx.all λ(o,i)=>(o.after.toList.all λe=>!Region.binds .any e||Nat.blt e.on i)&&
   (slotsOf l.toArray o).all λt=>l.zipIdx.all λ(o',j)=>Nat.beq i j||!(o'.dst==some t)||before i j)&&
 (ms.zipIdx.all λ(m,i)=>(m.1.all λk=>ms.zipIdx.all λ(m',j)=>Nat.beq i j||(match m'.2 with|some u=>!Nat.beq u.1 k|none=>true)||before i j)&&
   (match m.2 with|some u=>m.1.contains u.1|none=>true))&&
 (l.zipIdx.all λ(o,i)=>match o.dst with|none=>true|some d=>ms.zipIdx.all λ(m,j)=>Nat.beq i j||(match m.2 with|some u=>!u.2.contains d|none=>true)||(C.getD j []).contains i)
def qU {i j:Nat} (h:i≠j):Nat.beq i j=false:=by
 cases hb:Nat.beq i j with
 |false=>rfl
 |true=>exact absurd (Nat.eq_of_beq_eq_true hb) h
def AX {l:List Oper} {ms:Meta} (h:gV l ms=true) {i:Nat} {o:Oper} (ho:l[i]?=some o):∀e∈o.after.toList,Region.binds .any e=true->e.on<i:=λe he hb=>by
 simp only[gV,List.all_eq_true,Bool.and_eq_true] at h;have hm:(o,i)∈l.zipIdx:=by rw[List.mem_zipIdx_iff_getElem?];exact ho
 have:=(h.1.1 _ hm).1 e he;rw[hb] at this;simpa using this
def AY {l:List Oper} {ms:Meta} (h:gV l ms=true) {i:Nat} {o:Oper} (ho:l[i]?=some o):
 ∀t∈slotsOf l.toArray o,∀j o',l[j]?=some o'->i≠j->o'.dst=some t->if j<i then j∈(dw [] l).getD i [] else i∈(dw [] l).getD j []:=λt ht j o' ej aY hd=>by
 simp only[gV,List.all_eq_true,Bool.and_eq_true] at h;have hm:(o,i)∈l.zipIdx:=by rw[List.mem_zipIdx_iff_getElem?];exact ho
 have dL:(o',j)∈l.zipIdx:=by rw[List.mem_zipIdx_iff_getElem?];exact ej
 have:=(h.1.1 _ hm).2 t ht _ dL;simp only[qU aY,hd,Bool.false_or] at this;have h4:(!(some t==some t))=false:=by simp
 rw[h4,Bool.false_or] at this;split
 .rename_i bH;rw[if_pos bH] at this;simpa using this
 rename_i bH;rw[if_neg bH] at this;simpa using this
def AZ {l:List Oper} {rs:List Rec} (h:gV l (rs.map Rec.fi)=true) {i:Nat} {r:Rec} (hr:rs[i]?=some r):
 (∀k∈r.T,∀j r' u,rs[j]?=some r'->i≠j->r'.u=some u->u.k=k->if j<i then j∈(dw [] l).getD i [] else i∈(dw [] l).getD j [])/\∀u,r.u=some u->u.k∈r.T:=by
 simp only[gV,List.all_eq_true,Bool.and_eq_true] at h;have hm:(r.fi,i)∈(rs.map Rec.fi).zipIdx:=by rw[List.mem_zipIdx_iff_getElem?];simp[hr]
 obtain⟨h1,h2⟩:=h.1.2 _ hm;refine⟨λk hk j r' u A0 aY hu A1=>?_,λu hu=>?_⟩
 .have dL:(r'.fi,j)∈(rs.map Rec.fi).zipIdx:=by rw[List.mem_zipIdx_iff_getElem?];simp[A0]
  have:=h1 k hk _ dL;have hb:Nat.beq u.k k=true:=by rw[A1];exact Nat.beq_refl k
  simp only[qU aY,Rec.fi,hu,Option.map_some,hb,Bool.not_true,Bool.false_or] at this;split
  .rename_i bH;rw[if_pos bH] at this;simpa using this
  rename_i bH;rw[if_neg bH] at this;simpa using this
 simp only[Rec.fi,hu,Option.map_some] at h2;simpa using h2
def A2 {l:List Oper} {rs:List Rec} (h:gV l (rs.map Rec.fi)=true) {i d:Nat} {o:Oper} (ho:l[i]?=some o) (hd:o.dst=some d) {j:Nat} {r:Rec} {u:gj} (hr:rs[j]?=some r) (hu:r.u=some u) (aY:i≠j) (A3:d∈u.aA):
 i∈(dw [] l).getD j []:=by
 simp only[gV,List.all_eq_true,Bool.and_eq_true] at h;have hm:(o,i)∈l.zipIdx:=by rw[List.mem_zipIdx_iff_getElem?];exact ho
 have:=h.2 _ hm;simp only[hd,List.all_eq_true] at this;have dL:(r.fi,j)∈(rs.map Rec.fi).zipIdx:=by rw[List.mem_zipIdx_iff_getElem?];simp[hr]
 have:=this _ dL;simp only[qU aY,Rec.fi,hu,Option.map_some,Bool.false_or,Bool.or_eq_true,Bool.not_eq_true'] at this;rcases this with h|h
 .have:u.aA.contains d=true:=by simpa using A3
  rw[this] at h;cases h
 simpa using h
section
variable {P:Program} {c:Ctx} {I:Im} {H:List Own} {Γ:Env} {a:Act} {w:World} {Q:Exit->Act->World->Prop}
def A4 {o:Oper} {K:Act->World->Prop} {Q':Exit->Act->World->Prop} (hq:∀e a w,e≠.normal->Q' e a w->Q e a w) (h:o.wp P a w K Q'):o.wp P a w (λa' w'=>(∃v,a'.tmps=(a.put o.dst v).tmps)/\K a' w') Q:=by
 unfold Oper.wp at h⊢;generalize (execOp a.eval o).run P w=r at h⊢;cases r with
 |ok n w'=>
  cases n with
  |enter f args=>
   refine Calls.mono h λe j8 he=>?_
   cases e with
   |returned v=>exact⟨⟨v,rfl⟩,he⟩
   |panicked ch=>exact hq _ _ _ aJ he
   |outgrown=>exact let⟨a,w,h⟩:=he;⟨a,w,hq _ _ _ aJ h⟩
  |row row args=>exact Rows.mono h λv j8 he=>⟨⟨v,rfl⟩,he⟩
  |value v=>exact⟨⟨v,rfl⟩,h⟩
  |skip=>exact⟨⟨undef,rfl⟩,h⟩
  |defer d=>exact⟨⟨undef,by cases o.dst<;>rfl⟩,h⟩
  |_=>exact h
 |halt x w'=>cases x<;>simp only[Oper.upon] at h⊢<;>first|exact h|exact hq _ _ _ aJ h
def uY {a:EA} {T:List Nat} {F:Nat->Own} {Hf:List (EA->Own)} {X:List Own} (hl:X.length=Hf.length) (h:∀j f x,Hf[j]?=some f->X[j]?=some x->x=bif T.contains j then f a else F j):cr T a F 0 Hf=X:=by
 apply List.ext_getElem?;intro j;rw[kv];cases hf:Hf[j]? with
 |none=>
  have:Hf.length<=j:=by simpa using hf
  rw[List.getElem?_eq_none om];rfl
 |some f=>
  have hj:j<Hf.length:=(List.getElem?_eq_some_iff.1 hf).1
  have hx:X[j]?=some X[j]:=by simp[hl,hj]
  rw[hx]
  simp only[Option.map_some,Nat.zero_add]
  rw[<-h j f _ hf hx]
def St.A5 (U:St c I H Γ a w):St ⟨c.W,I,c.n,c.F⟩ I H Γ a w:=
 ⟨⟨Im.le_refl I,λ_ _ _=>rfl,U.step.bO,U.step.below⟩,U.own,U.env,U.size,U.defers⟩
def mW (pre tail:List Oper) (ms:Meta):Bool:=
 gV (pre++tail) (ms++tail.map λ_=>([],none))&&(List.range tail.length).all λi=>(List.range (pre.length+i)).all λj=>((dw [] (pre++tail)).getD (pre.length+i) []).contains j
def ox {α:Type} {x y:List α} {i:Nat} {v:α} (h:x[i]?=some v):(x++y)[i]?=some v:=by
 rw[List.getElem?_append_left (List.getElem?_eq_some_iff.1 h).1];exact h
def A6 {pre tail:List Oper} {rs:List Rec} {H0:List Own} (qV:mW pre tail (rs.map Rec.fi)=true) (hlen:pre.length=rs.length) (oj:(pre.all λo=>match o.dst with|some d=>Nat.blt d c.n|none=>true)=true)
 (fc:∀(i:Nat) (r:Rec) (u:gj),rs[i]?=some r->r.u=some u->u.fit)
 (run:∀(i:Nat) (o:Oper) (r:Rec),pre[i]?=some o->rs[i]?=some r->ow P c.n (pre++tail).toArray (cU (λj=>decide (j<i)) 0 rs 0 (H0.map λo _=>o)) (eQ (cU (λj=>decide (j<i)) 0 rs 0 (H0.map λo _=>o)) r.u) r.T ((ck ((cq 0 pre rs).reverse.filter λe=>decide (e.1<i))++Γ).only (o.looksAt (pre++tail).toArray)) o r.x)
 (k:∀γ I' a' w',St c I' (eG (ea a' γ) (cU (λ_=>true) 0 rs 0 (H0.map λo _=>o))) (ck (cq 0 pre rs).reverse++Γ) a' w'->wpList P (pre++tail).toArray Q tail a' w'):
 ∀(fuel:Nat) (listed:Array Bool) (γ:Nat->Own) (I:Im) (a:Act) (w:World),listed.size=(pre++tail).length->((List.range (pre++tail).length).filter λi=>!listed.getD i false).length<=fuel->
  (∀i,i<(pre++tail).length->listed.getD i false=true->i<pre.length)->
  (∀(i:Nat) (o:Oper),(pre++tail)[i]?=some o->listed.getD i false=true->∀e∈o.after.toList,Region.binds .any e=true->listed.getD e.on false=true)->
  St c I (eG (ea a γ) (cU (λi=>listed.getD i false) 0 rs 0 (H0.map λo _=>o))) (ck ((cq 0 pre rs).reverse.filter λe=>listed.getD e.1 false)++Γ) a w->wpAny P .any (pre++tail).toArray Q fuel listed a w:=by
 simp only[mW,Bool.and_eq_true,List.all_eq_true] at qV;have cI:gV (pre++tail) ((rs++tail.map λ_=>(⟨AV.any,[],none⟩:Rec)).map Rec.fi)=true:=by
  rw[List.map_append,List.map_map];exact qV.1
 have hT:∀{i j:Nat},pre.length<=i->i<(pre++tail).length->j<i->j∈(dw [] (pre++tail)).getD i []:=λ{i j} hi dW hj=>by
  have:=qV.2 (i-pre.length) (by simp at dW⊢;omega) j dF;rw[show pre.length+(i-pre.length)=i from by omega] at this;simpa using this
 have hE:∀{i:Nat} {o:Oper},(pre++tail)[i]?=some o->∀e∈o.after.toList,Region.binds .any e=true->e.on<i:=λho=>AX cI ho;have hL:(cq 0 pre rs).reverse.Pairwise (λe f=>f.1<e.1):=by
  rw[List.pairwise_reverse];exact(qT 0 pre rs).1
 have ik:∀e∈(cq 0 pre rs).reverse,∃o',pre[e.1]?=some o'/\o'.dst=some e.2.1:=λe he=>by
  obtain⟨j,o',r',g1,_,g3,g4,_⟩:=uV (List.mem_reverse.1 he);exact⟨o',by rw[g3,Nat.zero_add];exact g1,g4⟩
 have uZ:∀(listed:Array Bool) (γ:Nat->Own) (I:Im) (a:Act) (w:World),(∀i,i<pre.length->listed.getD i false=true)->
  St c I (eG (ea a γ) (cU (λi=>listed.getD i false) 0 rs 0 (H0.map λo _=>o))) (ck ((cq 0 pre rs).reverse.filter λe=>listed.getD e.1 false)++Γ) a w->wpList P (pre++tail).toArray Q tail a w:=λlisted γ I a w au U=>by
  refine k γ I a w ?_;have e1:(cq 0 pre rs).reverse.filter (λe=>listed.getD e.1 false)=(cq 0 pre rs).reverse:=by
   rw[List.filter_eq_self];intro e he;obtain⟨o',h1,_⟩:=ik e he;exact au e.1 (List.getElem?_eq_some_iff.1 h1).1
  have e2:cU (λi=>listed.getD i false) 0 rs 0 (H0.map λo _=>o)=cU (λ_=>true) 0 rs 0 (H0.map λo _=>o):=by
   apply List.ext_getElem?;intro j;rw[gm,gm];cases(H0.map λ(o:Own) (_:EA)=>o)[j]? with
   |none=>rfl
   |some f=>
    simp only[Option.map_some]
    rw[mU (S:=λi=>listed.getD i false) (S':=λ_=>true) 0 rs f λj r u h1 _ _=>by
     rw[Nat.zero_add];exact au j (by rw[hlen];exact(List.getElem?_eq_some_iff.1 h1).1)]
  rw[e1,e2] at U;exact U
 intro fuel;induction fuel with
 |zero=>
  intro listed γ I a w bf hf gh cN U
  have h0:∀i,i<(pre++tail).length->listed.getD i false=true:=λi hi=>by
   have:(List.range (pre++tail).length).filter (λi=>!listed.getD i false)=[]:=List.eq_nil_of_length_eq_zero om;rw[List.filter_eq_nil_iff] at this;simpa using this i (by simpa using hi)
  have oh:tail=[]:=by
   rcases tail with _|⟨t,ts⟩
   .rfl
   have:=gh pre.length aJ (h0 pre.length aJ);omega
  have hw:=uZ listed γ I a w (λi hi=>h0 i dF) U
  exact og hE hT 0 (pre++tail).length listed 0 a w om aJ om om bf (λi hi=>⟨λ_=>hi,λ_=>h0 i hi⟩) (by subst oh;simpa using hw)
 |succ fuel ih=>
  intro listed γ I a w bf hf gh cN U
  by_cases au:∀i,i<pre.length->listed.getD i false=true
  .refine og hE hT _ pre.length listed (fuel+1) a w rfl om aJ (uG hf gh au) bf (λi hi=>⟨gh i hi,au i⟩) ?_
   rw[List.drop_left]
   exact uZ listed γ I a w au U
  have mR:∃i0,i0<pre.length/\listed.getD i0 false=false:=by
   refine Classical.byContradiction λhn=>au λi hi=>?_;cases hb:listed.getD i false with
   |true=>rfl
   |false=>exact absurd ⟨i,hi,hb⟩ hn
  obtain⟨i0,AK,iU⟩:=mR
  refine⟨λhr=>?_,λi hi=>?_⟩
  .exfalso
   have:∀i,i<(pre++tail).length->listed.getD i false=true:=λi=>by
    induction i using Nat.strongRecOn with
    |_ i my=>
     intro hi
     cases hl:listed.getD i false with
     |true=>rfl
     |false=>
      have jA:i∈Region.ready .any (pre++tail).toArray listed:=by
       refine mem_ready.2 ⟨by rw[lG om];exact hl,(pre++tail)[i],by simp[hi],λe he hb=>?_⟩;have bH:=hE (i:=i) (o:=(pre++tail)[i]) (by simp[hi]) e (by simpa using he) hb;exact my e.on bH om
      rw[hr] at jA;cases jA
   rw[this i0 dF] at iU;cases iU
  obtain⟨h1,o,h2,h3⟩:=mem_ready.1 hi
  have bH:i<(pre++tail).length:=by have:=(Array.getElem?_eq_some_iff.1 h2).1;simpa using this
  have lL:(pre++tail)[i]?=some o:=by simpa using h2
  rw[lG om] at h1
  have aF:=qI bf cN lL (λe he hb=>h3 e (by simpa using he) hb)
  have jG:i<pre.length:=by
   refine Classical.byContradiction λhn=>?_;have:=aF i0 om (hT om bH om);rw[this] at iU;cases iU
  have dx:∀j,(listed.setIfInBounds i true).getD j false=if j=i then true else listed.getD j false:=λj=>n4 om false
  have qL:=n2 (S:=λj=>listed.getD j false) (pre++tail) [] (λi k hk=>by simp at hk) (λi o ho hi e he hb=>cN i o ho (by simpa using hi) e he hb)
  have qM:∀(i':Nat) (o':Oper),(pre++tail)[i']?=some o'->(listed.setIfInBounds i true).getD i' false=true->∀e∈o'.after.toList,Region.binds .any e=true->(listed.setIfInBounds i true).getD e.on false=true:=λi' o' ej dW e he hb=>by
   rw[dx] at dW⊢;split
   .rfl
   split at dW
   .rename_i mQ;subst mQ;rw[lL] at ej;cases ej;exact h3 e (by simpa using he) hb
   exact cN i' o' ej dW e he hb
  have kq:∀j,i∈(dw [] (pre++tail)).getD j []->listed.getD j false=false:=λj hj=>by
   cases hb:listed.getD j false with
   |false=>rfl
   |true=>rw[qL j i hj hb] at h1;cases h1
  have qP:∀j,j<(pre++tail).length->(listed.setIfInBounds i true).getD j false=true->j<pre.length:=λj hj hb=>by
   rw[dx] at hb;split at hb
   .rename_i e;subst e;exact jG
   exact gh j hj hb
  have iV:pre[i]?=some o:=by rw[List.getElem?_append_left jG] at lL;exact lL
  have kf:i<rs.length:=by omega
  have lM:rs[i]?=some rs[i]:=by simp[kf]
  generalize rs[i]=r at lM
  obtain⟨A7,A8⟩:=AZ cI (ox lM)
  have lv:∀k∈r.T,∀j r' u,rs[j]?=some r'->i≠j->r'.u=some u->u.k=k->if j<i then j∈(dw [] (pre++tail)).getD i [] else i∈(dw [] (pre++tail)).getD j []:=λk hk j r' u g=>A7 k hk j r' u (ox g)
  have dM:=run i o r iV lM
  have qW:∀k∈r.T,∀f,cellAt (λj=>decide (j<i)) k 0 rs f=cellAt (λj=>listed.getD j false) k 0 rs f:=λk hk f=>mU 0 rs f λj r' u g1 g2 g3=>by
   rw[Nat.zero_add];by_cases fL:i=j
   .subst fL;rw[h1];simp
   have:=lv k hk j r' u g1 fL g2 g3;split at this
   .rename_i gi;rw[aF j (λe=>fL e.symm) this];simpa using gi
   rename_i gi;rw[kq j this];simpa using gi
  have A9:=AY cI lL
  have oi:∀t∈slotsOf (pre++tail).toArray o,∀j o',pre[j]?=some o'->i≠j->o'.dst=some t->if j<i then j∈(dw [] (pre++tail)).getD i [] else i∈(dw [] (pre++tail)).getD j []:=λt ht j o' g=>A9 t ht j o' (ox g)
  have qN:br I a ((ck ((cq 0 pre rs).reverse.filter λe=>decide (e.1<i))++Γ).only (o.looksAt (pre++tail).toArray)):=λt y e=>by
   obtain⟨g1,g2⟩:=Env.p6 e;have ht:t∈slotsOf (pre++tail).toArray o:=by
    unfold slotsOf;rw[List.mem_append];exact .inr (by simpa using g2)
   rw[mA (q:=λe=>listed.getD e.1 false) _ (λe he gS=>?_)] at g1
   .exact U.env t y g1
   obtain⟨o',k1,k2⟩:=ik e he;by_cases kr:e.1=i
   .rw[kr,h1];simp
   have:=oi t ht e.1 o' k1 (λh=>kr h.symm) (by rw[k2,gS]);split at this
   .rename_i gi;rw[aF e.1 kr this];simpa using gi
   rename_i gi;rw[kq e.1 this];simpa using gi
  have qO:((List.range (pre++tail).length).filter λj=>!(listed.setIfInBounds i true).getD j false).length<=fuel:=by
   have:=filter_lt (l:=List.range (pre++tail).length) (p:=λj=>!listed.getD j false) (q:=λj=>!(listed.setIfInBounds i true).getD j false) (i:=i) (by simpa using bH) (by simp only[h1];rfl) (by simp only[dx];simp) (λj hj=>by
    simp only[dx] at hj;split at hj
    .cases hj
    exact hj)
   omega
  let HS:List (EA->Own):=cU (λi=>listed.getD i false) 0 rs 0 (H0.map λo _=>o)
  let F:Nat->Own:=λk=>match HS[k]? with|some f=>f (ea a γ)|none=>Own.gone
  have Ba:cr r.T (ea a γ) F 0 (cU (λj=>decide (j<i)) 0 rs 0 (H0.map λo _=>o))=eG (ea a γ) HS:=uY (by simp[eG,HS,ov]) λj f x g1 g2=>by
   rw[gm] at g1;have mX:(eG (ea a γ) HS)[j]?=some x:=g2;simp only[eG,List.getElem?_map] at mX;have g3:HS[j]?=((H0.map λ(o:Own) (_:EA)=>o)[j]?).map (cellAt (λi=>listed.getD i false) (0+j) 0 rs):=gm 0 _ j;cases h0:(H0.map λ(o:Own) (_:EA)=>o)[j]? with
   |none=>rw[h0] at g1;simp at g1
   |some f0=>
    rw[h0] at g1 g3
    simp only[Option.map_some,Option.some.injEq,Nat.zero_add] at g1 g3
    rw[g3] at mX
    simp only[Option.map_some,Option.some.injEq] at mX
    cases hT:r.T.contains j with
    |true=>
     simp only[cond_true]
     rw[<-g1,<-mX,qW j (by simpa using hT)]
    |false=>
     simp only[cond_false,F,g3,<-mX]
  have Bb:St ⟨c.W,I,c.n,c.F⟩ I (cr r.T (ea a γ) F 0 (cU (λj=>decide (j<i)) 0 rs 0 (H0.map λo _=>o))) ((ck ((cq 0 pre rs).reverse.filter λe=>decide (e.1<i))++Γ).only (o.looksAt (pre++tail).toArray)) a w:=by
   rw[Ba];exact⟨U.A5.step,U.own,qN,U.size,U.defers⟩
  have jB:∀γ',(∀t,o.dst≠some t->γ' t=γ t)->∀I' a' w',(∃v,a'.tmps=(a.put o.dst v).tmps)->St ⟨c.W,I,c.n,c.F⟩ I' (cr r.T (ea a' γ') F 0 (eQ (cU (λj=>decide (j<i)) 0 rs 0 (H0.map λo _=>o)) r.u)) (gU o.dst r.x ((ck ((cq 0 pre rs).reverse.filter λe=>decide (e.1<i))++Γ).only (o.looksAt (pre++tail).toArray))) a' w'->
   wpAny P .any (pre++tail).toArray Q fuel (listed.setIfInBounds i true) a' w':=λγ' hγ I' a' w' ⟨v,hv⟩ h'=>by
   refine ih (listed.setIfInBounds i true) γ' I' a' w' (by simpa using bf) qO qP qM ?_;have mY:∀t,o.dst≠some t->a'.tmps.getD t undef=a.tmps.getD t undef:=λt ht=>by
    rw[hv];cases hd:o.dst with
    |none=>rfl
    |some d=>
     have aY:d≠t:=λe=>ht (by rw[hd,e])
     simp[Act.put,aY]
   have cS:cr r.T (ea a' γ') F 0 (eQ (cU (λj=>decide (j<i)) 0 rs 0 (H0.map λo _=>o)) r.u)=eG (ea a' γ') (cU (λj=>(listed.setIfInBounds i true).getD j false) 0 rs 0 (H0.map λo _=>o)):=uY (by cases r.u<;>simp[eG,ov,eQ]) λj f x g1 g2=>by
    simp only[eG,List.getElem?_map] at g2;rw[gm] at g2;cases h0:(H0.map λ(o:Own) (_:EA)=>o)[j]? with
    |none=>rw[h0] at g2;simp at g2
    |some f0=>
     rw[h0] at g2
     simp only[Option.map_some,Option.some.injEq,Nat.zero_add] at g2
     have Bc:∀a a',f0 a=f0 a':=by
      rw[List.getElem?_map] at h0;cases hh:H0[j]? with
      |none=>rw[hh] at h0;simp at h0
      |some o0=>rw[hh] at h0;simp at h0;subst h0;intro _ _;rfl
     have jy:∀(oz:∀u,r.u=some u->u.k≠j),cellAt (λj=>(listed.setIfInBounds i true).getD j false) j 0 rs f0=cellAt (λj=>listed.getD j false) j 0 rs f0:=λoz=>mU 0 rs f0 λj' r' u g3 g4 g5=>by
      rw[Nat.zero_add,dx,if_neg];intro e;subst e;rw[lM] at g3;cases g3;exact oz u g4 g5
     cases hT:r.T.contains j with
     |true=>
      simp only[cond_true]
      rw[<-g2]
      have qX:j∈r.T:=by simpa using hT
      cases hu:r.u with
      |none=>
       rw[hu] at g1
       simp only[eQ] at g1
       rw[gm,h0] at g1
       simp only[Option.map_some,Option.some.injEq,Nat.zero_add] at g1
       rw[jy (λu e=>by rw[hu] at e;cases e),<-qW j qX,g1]
      |some u=>
       rw[hu] at g1
       simp only[eQ] at g1
       by_cases hk:u.k=j
       .subst hk
        have gi:u.k<(cU (λj=>decide (j<i)) 0 rs 0 (H0.map λo _=>o)).length:=by
         rw[ov];exact(List.getElem?_eq_some_iff.1 h0).1
        rw[List.getElem?_set_self gi] at g1
        cases g1
        rw[uR 0 rs f0 i r u lM hu rfl (by rw[Nat.zero_add,dx];simp) λj' r' u' g3 g4 g5 g6=>?_]
        have:=lv u.k qX j' r' u' g3 om g4 g5
        rw[if_neg om] at this
        rw[Nat.zero_add,dx,if_neg om]
        exact kq j' this
       rw[List.getElem?_set_ne hk,gm,h0] at g1
       simp only[Option.map_some,Option.some.injEq,Nat.zero_add] at g1
       rw[jy (λu' e=>by rw[hu] at e;cases e;exact hk),<-qW j qX,g1]
     |false=>
      simp only[cond_false]
      rw[<-g2]
      have oz:∀u,r.u=some u->u.k≠j:=λu hu e=>by
       have:=A8 u hu;rw[e] at this;have:r.T.contains j=true:=by simpa using this
       rw[hT] at this;cases this
      rw[jy oz]
      have g3:HS[j]?=some (cellAt (λi=>listed.getD i false) j 0 rs f0):=by
       have:=gm (S:=λi=>listed.getD i false) (i:=0) (rs:=rs) 0 (H0.map λ(o:Own) (_:EA)=>o) j;rw[h0,Nat.zero_add] at this;exact this
      simp only[F,g3]
      refine(uS (a:=ea a' γ') (a':=ea a γ) 0 rs f0 (Bc _ _) λj' r' u' g4 g5 g6=>fc j' r' u' g4 g5 _ _ λd hd=>(λhn=>⟨mY d hn,hγ d hn⟩) λe=>?_)
      rw[Nat.zero_add] at g6
      by_cases fL:i=j'
      .subst fL;have mZ:listed.getD i false=true:=g6;rw[h1] at mZ;cases mZ
      have mZ:listed.getD j' false=true:=g6
      rw[kq j' (A2 cI lL e (ox g4) g5 fL hd)] at mZ;cases mZ
   rw[cS] at h';have iS:cE c.F c.I c.W I' w':=⟨Im.le_trans U.step.le h'.step.le,λb hb hf=>(h'.step.cR b hb hf).trans (U.step.cR b hb hf),h'.step.bO,h'.step.below⟩;refine⟨iS,h'.own,?_,h'.size,h'.defers⟩;intro t y e;by_cases iW:o.dst=some t
   .have mJ:(i,t,r.x)∈(cq 0 pre rs).reverse:=by
     rw[List.mem_reverse];have:=AW iW (k:=0) iV lM;rwa[Nat.zero_add] at this
    rw[p7 (i:=i) (x:=r.x) _ hL mJ (by simp only[dx];simp) (λe he hp gS=>?_)] at e
    .cases e;exact h'.env t r.x (by rw[iW];simp[gU,Env.get])
    obtain⟨o',k1,k2⟩:=ik e he;by_cases hle:e.1<=i
    .exact hle
    have aY:i≠e.1:=by omega
    have:=oi t (by unfold slotsOf;rw[List.mem_append];exact .inl (by simp[iW])) e.1 o' k1 aY (by rw[k2,gS]);rw[if_neg om] at this;have Bd:¬e.1=i:=λh=>aY h.symm;rw[dx,if_neg Bd,kq e.1 this] at hp;cases hp
   rw[mA (q:=λe=>listed.getD e.1 false) _ (λe he gS=>?_)] at e
   .have:=U.env t y e;rw[mY t iW];exact y.up _ _ _ h'.step.le this
   obtain⟨o',k1,k2⟩:=ik e he;have aY:e.1≠i:=λh=>by
    rw[h,iV] at k1;cases k1;exact iW (by rw[k2,gS])
   simp only[dx,if_neg aY]
  let Q':Exit->Act->World->Prop:=λe a' w'=>match e with
   |.normal=>∃γ',(∀t,o.dst≠some t->γ' t=γ t)/\∃I',St ⟨c.W,I,c.n,c.F⟩ I' (cr r.T (ea a' γ') F 0 (eQ (cU (λj=>decide (j<i)) 0 rs 0 (H0.map λo _=>o)) r.u)) (gU o.dst r.x ((ck ((cq 0 pre rs).reverse.filter λe=>decide (e.1<i))++Γ).only (o.looksAt (pre++tail).toArray))) a' w'
   |e=>Q e a' w'
  have hQ:∀e a w,e≠.normal->Q' e a w->Q e a w:=λe a w hn h=>by
   cases e<;>first|exact absurd rfl hn|exact h
  have gC:=dM F (c.W,c.F) I I γ a w Q' Bb λγ' hγ I' a' w' h'=>⟨γ',hγ,I',h'⟩
  unfold wpOp
  simp only[h2]
  unfold wpList at gC
  by_cases hw:Region.wanted o (yielded (pre++tail).toArray a.tmps)=true
  .rw[if_pos hw] at gC⊢
   rcases gC with gC|⟨h5,h6⟩
   .exact .inl (Oper.wp_mono (λa' w' h=>h) (Oper.wp_mono (λa' w' ⟨hv,γ',hγ,I',h'⟩=>jB γ' hγ I' a' w' hv h') (A4 hQ gC)))
   exact .inr ⟨h5,let⟨a,w,h⟩:=h6;⟨a,w,hQ _ a w aJ h⟩⟩
  rw[if_neg hw] at gC⊢
  obtain⟨γ',hγ,I',h'⟩:=gC
  exact jB γ' hγ I' _ w ⟨undef,rfl⟩ h'
def bg (P:Program) (c:Ctx) (ops:Array Oper) (Q:Exit->Act->World->Prop) (Γ:Env) (H:List (EA->Own)) (os:List Oper) (ms:Meta):Prop:=
 ∃rs,rs.map Rec.fi=ms/\kx P c.n ops Γ H os rs/\∀γ I' a' w',St c I' (eG (ea a' γ) (mV H rs)) (ky Γ os rs) a' w'->Q .normal a' w'
def bg.u6 {ops:Array Oper} {Hf:List (EA->Own)} (k:∀γ I' a' w',St c I' (eG (ea a' γ) Hf) Γ a' w'->Q .normal a' w'):bg P c ops Q Γ Hf [] []:=⟨[],rfl,trivial,k⟩
def bg.nil {ops:Array Oper} {Hf:List (EA->Own)} (k:∀I' a' w',St c I' (eG (ea a' λ_=>Own.gone) Hf) Γ a' w'->Q .normal a' w') (hi:∀t γ,eG ⟨t,γ⟩ Hf=eG ⟨t,λ_=>Own.gone⟩ Hf:=by exactλ_ _=>rfl):bg P c ops Q Γ Hf [] []:=.u6 λγ I' a' w' U=>k I' a' w' (hi a'.tmps γ▸U)
def bg.cons {ops:Array Oper} {Hf:List (EA->Own)} {o:Oper} {os:List Oper} {x:AV} {T:List Nat} {u:Option gj} {ms:Meta} (hu:∀v,u=some v->v.fit) (h:ow P c.n ops Hf (eQ Hf u) T (Γ.only (o.looksAt ops)) o x) (k:bg P c ops Q (gU o.dst x Γ) (eQ Hf u) os ms):
 bg P c ops Q Γ Hf (o::os) ((T,u.map λu=>(u.k,u.aA))::ms):=
 let⟨rs,h1,h2,h3⟩:=k;⟨⟨x,T,u⟩::rs,by simp[Rec.fi,h1],⟨h,hu,h2⟩,h3⟩
def St.u7 {id:Nat} {pre tail:List Oper} {rs:List Rec} (U:St c I H Γ a w) (hm:P.follows .mixedOrders=true) (cI:mW pre tail (rs.map Rec.fi)=true) (hd:(pre.all λo=>match o.dst with|some d=>Nat.blt d c.n|none=>true)=true)
 (run:kx P c.n (pre++tail).toArray Γ (H.map λo _=>o) pre rs) (k:∀γ I' a' w',St c I' (eG (ea a' γ) (mV (H.map λo _=>o) rs)) (ky Γ pre rs) a' w'->wpList P (pre++tail).toArray Q tail a' w'):(Code.region id (pre++tail).toArray true).wp P Q a w:=by
 refine wp_region_any hm ?_;obtain⟨hlen,fc,dM⟩:=kx.at (Γ0:=Γ) pre rs 0 _ [] (by simpa[ck] using run) (λe he=>by simp at he);have hf:∀i:Nat,(Array.replicate (pre++tail).length false).getD i false=false:=λi=>by
  rw[Array.getD_eq_getD_getElem?,Array.getElem?_replicate];split<;>rfl
 have:=A6 (P:=P) (c:=c) (H0:=H) (Γ:=Γ) (Q:=Q) cI hlen hd fc (λi o r ho hr=>by simpa using dM i o r ho hr) (λγ I' a' w' h=>by
  rw[<-uW,<-uX] at h;exact k γ I' a' w' h) (pre++tail).length (Array.replicate (pre++tail).length false) (λ_=>Own.gone) I a {w with drawn:=w.drawn+1} aJ
  (by simpa using List.length_filter_le _ (List.range (pre++tail).length)) (λi hi h=>by rw[hf] at h;cases h) (λi o ho hi=>by rw[hf] at hi;cases hi) (by
    have he:(cq 0 pre rs).reverse.filter (λe=>(Array.replicate (pre++tail).length false).getD e.1 false)=[]:=by
     rw[List.filter_eq_nil_iff];intro e _;rw[hf];simp
    have hh:eG (ea a λ_=>Own.gone) (cU (λi=>(Array.replicate (pre++tail).length false).getD i false) 0 rs 0 (H.map λo _=>o))=H:=by
     rw[uU λj _=>hf j];simp[eG,Function.comp_def]
    rw[he,hh];exact⟨⟨U.step.le,U.step.cR,U.step.bO,U.step.below.drew⟩,⟨λo ho=>⟨o.fy I I w _ (Im.le_refl I) (λ_ _=>rfl) (U.own.all o ho).1,(U.own.all o ho).2⟩,U.own.apart⟩,U.env,U.size,U.defers⟩)
 simpa using this
def St.u9 {id:Nat} {l:List Oper} (ms:Meta) (U:St c I H Γ a w) (hm:P.follows .mixedOrders=true) (cI:gV l ms=true) (hd:(l.all λo=>match o.dst with|some d=>Nat.blt d c.n|none=>true)=true)
 (run:bg P c l.toArray Q Γ (H.map λo _=>o) l ms):(Code.region id l.toArray true).wp P Q a w:=by
 obtain⟨rs,h0,run,k⟩:=run;subst h0;have:=U.u7 (id:=id) (Q:=Q) (pre:=l) (tail:=[]) (rs:=rs) hm (by simpa[mW] using cI) hd (by rw[List.append_nil];exact run) λγ I' a' w' h=>wpList_nil (k γ I' a' w' h);rwa[List.append_nil] at this
end
def va {a a':EA} {F:Nat->Own} {Hf:List (EA->Own)}:cr [] a F 0 Hf=cr [] a' F 0 Hf:=by
 apply List.ext_getElem?;intro j;rw[kv,kv];rfl
def lN {k:Nat} {a a':EA} {F:Nat->Own} {Hf:List (EA->Own)} {f:EA->Own} {O:Own} (h:O=f a'):(cr [k] a F 0 Hf).set k O=cr [k] a' F 0 (Hf.set k f):=by
 apply List.ext_getElem?;intro j;rw[kv,List.getElem?_set,List.getElem?_set,kv];have hl:(cr [k] a F 0 Hf).length=Hf.length:=by
  have:∀(n:Nat) (L:List (EA->Own)),(cr [k] a F n L).length=L.length:=by
   intro n L;induction L generalizing n with
   |nil=>rfl
   |cons x L ih=>simp[cr,ih]
  exact this 0 Hf
 rw[hl];by_cases hk:k=j
 .subst hk;by_cases bH:k<Hf.length
  .simp[bH,h]
  simp[bH]
 rw[if_neg hk,if_neg hk];have hc:([k].contains (0+j))=false:=by simp;omega
 rw[hc];rfl
section
variable {P:Program} {c:Ctx} {I:Im} {H:List Own} {Γ:Env} {a:Act} {w:World} {Q:Exit->Act->World->Prop} {ops:Array Oper} {Hf:List (EA->Own)} {os:List Oper} {ms:Meta}
def St.pass {H':List Own} (U:St c I H Γ a w) (h:H=H'):St c I H' Γ a w:=h▸U
def bg.op {o:Oper} {d:Nat} {x:AV} (hg:o.guard=none) (ho:o.dst=some d) (hd:Nat.blt d c.n=true) (h:∀F a,Ok P (cr [] a F 0 Hf) (Γ.only (o.looksAt ops)) true o x)
 (k:bg P c ops Q ((d,x)::Γ) Hf os ms):bg P c ops Q Γ Hf (o::os) (([],none)::ms):=
 bg.cons (u:=none) (x:=x) (λv e=>by cases e) (λF W0 I0 I γ a w Q U kk=>U.op hg ho hd (h F (ea a γ)) λI' a' w' bj=>kk γ (λ_ _=>rfl) I' a' w' (by rw[ho];exact bj.pass va)) (by rw[ho];exact k)
def bg.n0 {o:Oper} {d:Nat} {x:AV} {G:Bool} (hg:di ops (Γ.only (o.looksAt ops)) o G) (ho:o.dst=some d) (hd:Nat.blt d c.n=true) (h:∀F a,Ok P (cr [] a F 0 Hf) (Γ.only (o.looksAt ops)) G o x)
 (k:bg P c ops Q ((d,.cond G x)::Γ) Hf os ms):bg P c ops Q Γ Hf (o::os) (([],none)::ms):=
 bg.cons (u:=none) (x:=.cond G x) (λv e=>by cases e) (λF W0 I0 I γ a w Q U kk=>U.n0 hg ho hd (h F (ea a γ)) λI' a' w' bj=>kk γ (λ_ _=>rfl) I' a' w' (by rw[ho];exact bj.pass va)) (by rw[ho];exact k)
def bg.Be {o:Oper} {d:Nat} {x:AV} (T:List Nat) (hc:∀F a a',cr T a F 0 Hf=cr T a' F 0 Hf) (hg:o.guard=none) (ho:o.dst=some d) (hd:Nat.blt d c.n=true) (h:∀F a,Ok P (cr T a F 0 Hf) (Γ.only (o.looksAt ops)) true o x)
 (k:bg P c ops Q ((d,x)::Γ) Hf os ms):bg P c ops Q Γ Hf (o::os) ((T,none)::ms):=
 bg.cons (u:=none) (x:=x) (λv e=>by cases e) (λF W0 I0 I γ a w Q U kk=>U.op hg ho hd (h F (ea a γ)) λI' a' w' bj=>kk γ (λ_ _=>rfl) I' a' w' (by rw[ho];exact bj.pass (hc F (ea a γ) (ea a' γ)))) (by rw[ho];exact k)
def St.oA {x:Own} (k:Nat) (U:St c I (H++[x]) Γ a w) (hk:H[k]?=some Own.gone):St c I (H.set k x) Γ a w:=by
 refine⟨U.step,⟨λo ho=>?_,?_⟩,U.env,U.size,U.defers⟩
 .rcases List.mem_or_eq_of_mem_set ho with ho|rfl
  .exact U.own.all o (List.mem_append_left _ ho)
  exact U.own.all _ aJ
 have hn:=U.own.apart;rw[List.pairwise_append] at hn;refine fB hn.1 λb hb=>.inr λy hy e=>?_;exact hn.2.2 y hy x aJ b e hb
def St.m0 (U:St c I H Γ a w):St c I (H++[Own.gone]) Γ a w:=
 ⟨U.step,⟨λy hy=>by
  rcases List.mem_append.1 hy with hy|hy
  .exact U.own.all y hy
  .obtain rfl:=by simpa using hy
   exact⟨trivial,λb e=>by cases e⟩,
  by rw[List.pairwise_append];exact⟨U.own.apart,by simp,λy _ z hz b _ e=>by obtain rfl:z=_:=List.mem_singleton.1 hz;exact e.elim⟩⟩,U.env,U.size,U.defers⟩
def jH {k:Nat} {a:EA} {F:Nat->Own} {f:EA->Own} (h:Hf[k]?=some f):(cr [k] a F 0 Hf)[k]?=some (f a):=by
 rw[kv,h];simp
variable {T T' E ty:TypeId} {p:String} {af:Array Edge} {ag:Bool} {n m d:Nat} {zv:Value} {l lx:List AV} {z y:Operand}
def oB {a:Act} {b:Nat} (h:a.tmps.getD d undef=.pointer (some ⟨b,0,none⟩)):gT T l (a.tmps.getD d undef)=Own.box b T l:=by rw[h];rfl
def qY {k:Nat} {g:Value->Own} (h:∀v v',v=v'->g v=g v'):∀v,(some (⟨k,[d],λa=>g (a.tmps.getD d undef)⟩:gj))=some v->v.fit:=λv e=>by
 cases e;intro a a' hh;exact h _ _ (hh d aJ).1
def bg.alloc (k:Nat) (hk:Hf[k]?=some λ_=>Own.gone) (hd:Nat.blt d c.n=true) (hT:Ty P T ag n m zv) (hz:∀I,aC I l zv.cells.toList)
 (r:bg P c ops Q ((d,AV.lJ)::Γ) (Hf.set k λa=>gT T l (a.tmps.getD d undef)) os ms):bg P c ops Q Γ Hf (⟨some d,.alloc T,ty,p,af,none⟩::os) (([k],some (k,[d]))::ms):=
 bg.cons (u:=some ⟨k,[d],λa=>gT T l (a.tmps.getD d undef)⟩) (x:=AV.lJ) (qY λv v' e=>e▸rfl) (λF W0 I0 I γ a w Q U kk=>U.alloc hd hT hz λb I' a' w' bj=>by
  have hv:a'.tmps.getD d undef=.pointer (some ⟨b,0,none⟩):=bj.env d (.val (.pointer (some ⟨b,0,none⟩))) (by simp[Env.get]);refine kk γ (λ_ _=>rfl) I' a' w' ?_;have h1:=(bj.oA k (jH hk)).pass (lN (a':=ea a' γ) (f:=λa=>gT T l (a.tmps.getD d undef)) (oB hv).symm);exact⟨h1.step,h1.own,λt x e=>by
   simp only[gU,Env.get] at e;cases hb:Nat.beq d t with
   |true=>
    rw[hb] at e;simp only[cond_true] at e;cases e
    obtain rfl:d=t:=Nat.eq_of_beq_eq_true hb
    exact⟨b,hv⟩
   |false=>rw[hb] at e;exact h1.env t x (by simp only[Env.get,hb];exact e),h1.size,h1.defers⟩) r
def bg.vb (k:Nat) (hk:Hf[k]?=some λa=>gT T' l (a.tmps.getD d undef)) (hT:Ty P T true n m zv) (hy:Env.get d (Γ.only ((⟨none,.store T (.tmp d) z,ty,p,af,none⟩:Oper).looksAt ops))=some AV.lJ)
 (hz:At (Γ.only ((⟨none,.store T (.tmp d) z,ty,p,af,none⟩:Oper).looksAt ops)) true z (.agg lx)) (hn:lx.length=n) (hl:l.length=n)
 (r:bg P c ops Q Γ (Hf.set k λa=>gT T' lx (a.tmps.getD d undef)) os ms):bg P c ops Q Γ Hf (⟨none,.store T (.tmp d) z,ty,p,af,none⟩::os) (([k],some (k,[d]))::ms):=
 bg.cons (u:=some ⟨k,[d],λa=>gT T' lx (a.tmps.getD d undef)⟩) (x:=AV.any) (qY λv v' e=>e▸rfl) (λF W0 I0 I γ a w Q U kk=>by
  obtain⟨b,hb⟩:=U.env d _ hy;obtain⟨cs,hv,mF⟩:=hz I a U.env rfl;have cX:=jH (a:=ea a γ) (F:=F) hk;rw[oB hb] at cX;obtain⟨w',hr,bj⟩:=U.qe (q:=0) (lx:=lx) (v:=a.eval z) k hT cX (by rw[hv];exact mF) hn (by rw[hl];simp);have e:cm l 0 lx=lx:=by simp[cm];omega
  rw[e] at bj;exact eN rfl (mE hb rfl hr (kk γ (λ_ _=>rfl) I _ w' (bj.pass (lN (a':=ea a γ) (f:=λa=>gT T' lx (a.tmps.getD d undef)) (oB hb).symm))))) r
def St.ve (k:Nat) (U:St c I H Γ a w) (hd:Env.get d Γ=some AV.lJ) (hk:H[k]?=some (gT T l (a.tmps.getD d undef))):∃b,St c I (H.set k (Own.box b T l)) ((d,.val (.pointer (some ⟨b,0,none⟩)))::Γ) a w:=by
 obtain⟨b,hb⟩:∃b,a.tmps.getD d undef=.pointer (some ⟨b,0,none⟩):=U.env d _ hd;rw[oB hb] at hk;have e:H.set k (Own.box b T l)=H:=by
  apply List.ext_getElem?;intro j;rw[List.getElem?_set];split
  .rename_i e;subst e;rw[hk];simp[(List.getElem?_eq_some_iff.1 hk).1]
  rfl
 refine⟨b,U.step,by rw[e];exact U.own,λt x e=>?_,U.size,U.defers⟩;simp only[Env.get] at e;cases qZ:Nat.beq d t with
 |true=>
  rw[qZ] at e;simp only[cond_true] at e;cases e
  obtain rfl:d=t:=Nat.eq_of_beq_eq_true qZ
  exact hb
 |false=>rw[qZ] at e;exact U.env t x (by simpa using e)
def AV.oC:AV:=⟨λ_ v=>v.oneCell'=true,λ_ _ _ _ h=>h⟩
end
section
variable {Γ:Env} {g g' b:Bool} {t:Nat} {x:AV} {o:Operand}
def At.tt (h:Env.get t Γ=some x:=by rfl):At Γ g (.tmp t) x:=.t h
def At.ag (h:Env.get t Γ=some (AV.cond g' x):=by rfl) (hg:g=true->g'=true:=by intro hg;first|exact hg|exact(Bool.and_eq_true_iff.1 hg).1|exact(Bool.and_eq_true_iff.1 (Bool.and_eq_true_iff.1 hg).1).1):At Γ g (.tmp t) x:=.g h hg
def At.r (h:At Γ g o x:=by first|exact .t rfl|exact .nil (.t rfl)):At Γ g o x:=h
def At.pc (h:At Γ g o x:=by first|exact .t rfl|exact .gc rfl (λhg=>hg)|exact .gc rfl (λhg=>(Bool.and_eq_true_iff.1 hg).1)):At Γ g o x:=h
end
section
variable {P:Program} {c:Ctx} {I:Im} {H:List Own} {Γ:Env} {a:Act} {w:World} {Q:Exit->Act->World->Prop} {ops:Array Oper} {rest os:List Oper} {g G b:Bool} {x:AV} {d t j:Nat} {op:Op} {ty:TypeId} {p:String} {af:Array Edge} {gd:Option (Nat×Bool)} {y:Operand} {v:Value}
def di.T {o:Oper} (h:o.guard=some (j,true):=by rfl) (hj:(ops[j]?).bind (·.dst)=some t:=by rfl) (ht:Env.get t Γ=some (.bool b):=by rfl):di ops Γ o b:=zT h hj ht
def di.F {o:Oper} (h:o.guard=some (j,false):=by rfl) (hj:(ops[j]?).bind (·.dst)=some t:=by rfl) (ht:Env.get t Γ=some (.bool b):=by rfl):di ops Γ o (!b):=zU h hj ht
def di.T2 {o:Oper} (h:o.guard=some (j,true):=by rfl) (hj:(ops[j]?).bind (·.dst)=some t:=by rfl) (ht:Env.get t Γ=some (.cond g (.bool b)):=by rfl):di ops Γ o (g&&b):=zV h hj ht
def di.F2 {o:Oper} (h:o.guard=some (j,false):=by rfl) (hj:(ops[j]?).bind (·.dst)=some t:=by rfl) (ht:Env.get t Γ=some (.cond g (.bool b)):=by rfl):di ops Γ o (g&&!b):=zW h hj ht
def St.o (U:St c I H Γ a w) (ok:Ok P H Γ true ⟨some d,op,ty,p,af,none⟩ x) (k:∀{I' a' w'},St c I' H ((d,x)::Γ) a' w'->wpList P ops Q rest a' w') (hd:Nat.blt d c.n=true:=by rfl):wpList P ops Q (⟨some d,op,ty,p,af,none⟩::rest) a w:=U.op rfl rfl hd ok λ_ _ _ h=>k h
def St.m (U:St c I H Γ a w) (k:∀{I' a' w'},St c I' H ((d,x)::Γ) a' w'->wpList P ops Q rest a' w') (hy:Env.get t Γ=some x:=by rfl) (hd:Nat.blt d c.n=true:=by rfl):wpList P ops Q (⟨some d,.move (.tmp t),ty,p,af,none⟩::rest) a w:=U.op rfl rfl hd (mw (.t hy)) λ_ _ _ h=>k h
def St.s (U:St c I H Γ a w) (k:∀{I' a' w'},St c I' H ((d,x)::Γ) a' w'->wpList P ops Q rest a' w') (hy:Env.get t Γ=some x:=by rfl) (hd:Nat.blt d c.n=true:=by rfl):wpList P ops Q (⟨some d,.assign (.tmp t),ty,p,af,none⟩::rest) a w:=U.op rfl rfl hd (lr (.t hy)) λ_ _ _ h=>k h
def St.sc (U:St c I H Γ a w) (k:∀{I' a' w'},St c I' H ((d,.val v)::Γ) a' w'->wpList P ops Q rest a' w') (hd:Nat.blt d c.n=true:=by rfl):wpList P ops Q (⟨some d,.assign (.const v),ty,p,af,none⟩::rest) a w:=U.op rfl rfl hd (lr .c) λ_ _ _ h=>k h
def St.q (U:St c I H Γ a w) (hg:di ops Γ ⟨some d,op,ty,p,af,gd⟩ G) (ok:Ok P H Γ G ⟨some d,op,ty,p,af,gd⟩ x) (k:∀{I' a' w'},St c I' H ((d,.cond G x)::Γ) a' w'->wpList P ops Q rest a' w') (hd:Nat.blt d c.n=true:=by rfl):wpList P ops Q (⟨some d,op,ty,p,af,gd⟩::rest) a w:=U.n0 hg rfl hd ok λ_ _ _ h=>k h
def dy.o {o:Oper} (ok:Ok P H (Γ.only (o.looksAt ops)) true o x) (k:dy P c H ops Q ((o.dst.getD 0,x)::Γ) os) (hg:o.guard=none:=by rfl):dy P c H ops Q Γ (o::os):=.cons (.of hg ok) k
def dy.q {o:Oper} (hg:di ops (Γ.only (o.looksAt ops)) o G) (ok:Ok P H (Γ.only (o.looksAt ops)) G o x) (k:dy P c H ops Q ((o.dst.getD 0,AV.cond G x)::Γ) os):dy P c H ops Q Γ (o::os):=.cons (.n1 hg ok) k
def St.dk {id:Nat} {l:List Oper} (U:St c I H Γ a w) (run:dy P c H l.toArray Q Γ l) (hm:P.follows .mixedOrders=true:=by kernel_rfl) (cI:gf l []=true:=by kernel_rfl) (hd:(l.all λo=>Nat.blt (o.dst.getD 0) c.n)=true:=by rfl):(Code.region id l.toArray true).wp P Q a w:=U.AS hm cI hd run
end
def B:(∀(p:Prop) [Decidable p],(decide p=true)=p)/\(∀(p:Prop) [Decidable p],(decide p=false)↔¬p)/\(∀b:Bool,((!b)=true)=(b=false))/\(∀b:Bool,((!b)=false)=(b=true))/\(∀a b:Bool,((a&&b)=true)=(a=true/\b=true))/\
 (∀a b:Bool,((a||b)=true)=(a=true\/b=true))/\(∀a b:Bool,((a&&b)=false)↔(a=false\/b=false))/\(∀a b:Bool,((a||b)=false)↔(a=false/\b=false))/\(∀(α:Type) [BEq α] [LawfulBEq α] (a b:α),(a==b)=true↔a=b)/\(∀(α:Type) [BEq α] [LawfulBEq α] (a b:α),(a !=b)=true↔¬a=b)/\
 (∀(α:Type) [BEq α] [LawfulBEq α] (a b:α),(a !=b)=false↔a=b)/\(∀(α:Type) [BEq α] [LawfulBEq α] (a b:α),(a==b)=false↔¬a=b)/\
 (∀a b:Int,(¬a<b)↔b<=a)/\(∀a b:Int,(¬a<=b)↔b<a)/\(∀n m:Nat,((n:Int)<m)↔n<m)/\(∀n m:Nat,((n:Int)<=m)↔n<=m):=
 ⟨λ_ _=>decide_eq_true_eq,λ_ _=>decide_eq_false_iff_not,λb=>by simp,λb=>by simp,Bool.and_eq_true,Bool.or_eq_true,λ_ _=>Bool.and_eq_false_iff,λ_ _=>Bool.or_eq_false_iff,λ_ _ _ _ _=>beq_iff_eq,λ_ _ _ _ _=>bne_iff_ne,λ_ _ _ _ _=>bne_eq_false_iff_eq,λ_ _ _ _ _=>beq_eq_false_iff_ne,λ_ _=>Int.not_lt,λ_ _=>Int.not_le,λ_ _=>Int.ofNat_lt,λ_ _=>Int.ofNat_le⟩
end Go.Proofs.YtldbakcpcfdlaaaGreat
