/- Part 2: rules of the proofs. -/
import Derived.Laws.CopyRow
import Derived.Lib.AppendZerosOnto
import Derived.Lib.Overlaps
import Derived.Laws.Externs
import Derived.Test.YtjepcfpkclegdaaGreatP01
set_option linter.unusedVariables false
set_option linter.unusedSimpArgs false
namespace Go.Proofs.YtjepcfpkclegdaaGreat
open Go Go.RowKit
structure oS where
 k:Nat
 aO:List Nat
 f:Act->Own
structure Rec where
 x:AV
 T:List Nat
 u:Option oS
def oS.fit (u:oS):Prop:=∀a a':Act,(∀d∈u.aO,a.tmps.getD d undef=a'.tmps.getD d undef)->u.f a=u.f a'
def nr (d:Option Nat) (x:AV) (Γ:Env):Env:=match d with|some d=>(d,x)::Γ|none=>Γ
def mw (H:List (Act->Own)):Option oS->List (Act->Own)
 |none=>H
 |some u=>H.set u.k u.f
def cellAt (S:Nat->Bool) (k:Nat):Nat->List Rec->(Act->Own)->Act->Own
 |_,[],f=>f
 |i,r::rs,f=>cellAt S k (i+1) rs (match r.u with|none=>f|some u=>bif S i&&Nat.beq u.k k then u.f else f)
def iG (S:Nat->Bool) (i:Nat) (rs:List Rec):Nat->List (Act->Own)->List (Act->Own)
 |_,[]=>[]
 |k,f::fs=>cellAt S k i rs f::iG S i rs (k+1) fs
def eC (T:List Nat) (a:Act) (F:Nat->Own):Nat->List (Act->Own)->List Own
 |_,[]=>[]
 |k,f::fs=>(bif T.contains k then f a else F k)::eC T a F (k+1) fs
def nu (a:Act) (H:List (Act->Own)):List Own:=H.map λf=>f a
theorem oT {S:Nat->Bool} {i:Nat} {rs:List Rec}:∀(k:Nat) (H:List (Act->Own)) (j:Nat),(iG S i rs k H)[j]?=(H[j]?).map (cellAt S (k+j) i rs)
 |_,[],j=>by simp[iG]
 |k,f::fs,0=>by simp[iG]
 |k,f::fs,j+1=>by
  simp only[iG,List.getElem?_cons_succ]
  rw[oT (k+1) fs j]
  have e:k+1+j=k+(j+1):=by omega
  rw[e]
theorem v8 {T:List Nat} {a:Act} {F:Nat->Own}:∀(k:Nat) (H:List (Act->Own)) (j:Nat),(eC T a F k H)[j]?=(H[j]?).map (λf=>bif T.contains (k+j) then f a else F (k+j))
 |_,[],j=>by simp[eC]
 |k,f::fs,0=>by simp[eC]
 |k,f::fs,j+1=>by
  simp only[eC,List.getElem?_cons_succ]
  rw[v8 (k+1) fs j]
  have e:k+1+j=k+(j+1):=by omega
  rw[e]
theorem B4 {S:Nat->Bool} {i:Nat} {rs:List Rec}:∀(k:Nat) (H:List (Act->Own)),(iG S i rs k H).length=H.length
 |_,[]=>rfl
 |k,f::fs=>by simp[iG,B4 (k+1) fs]
theorem zU {S S':Nat->Bool} {k:Nat}:∀(i:Nat) (rs:List Rec) (f:Act->Own),(∀(j:Nat) (r:Rec) (u:oS),rs[j]?=some r->r.u=some u->u.k=k->S (i+j)=S' (i+j))->cellAt S k i rs f=cellAt S' k i rs f
 |_,[],_,_=>rfl
 |i,r::rs,f,h=>by
  have ih:=λf=>zU (S:=S) (S':=S') (k:=k) (i+1) rs f λj r' u h1 h2 h3=>by
   have:=h (j+1) r' u (by simpa using h1) h2 h3
   have e:i+1+j=i+(j+1):=by omega
   rw[e];exact this
  simp only[cellAt]
  rw[ih]
  cases hu:r.u with
  |none=>rfl
  |some u=>
   simp only[]
   cases hb:Nat.beq u.k k with
   |false=>simp
   |true=>rw[show S i=S' i from h 0 r u rfl hu (Nat.eq_of_beq_eq_true hb)]
theorem Fp {S:Nat->Bool} {k:Nat}:∀(i:Nat) (rs:List Rec) (f:Act->Own),(∀j,i<=j->S j=false)->cellAt S k i rs f=f
 |_,[],_,_=>rfl
 |i,r::rs,f,h=>by
  simp only[cellAt]
  rw[Fp (i+1) rs _ λj hj=>h j (by omega)]
  cases r.u with
  |none=>rfl
  |some u=>simp[h i (Nat.le_refl _)]
theorem K4 {S:Nat->Bool} {k:Nat}:∀(i:Nat) (rs:List Rec) (f:Act->Own) (j:Nat) (r:Rec) (u:oS),rs[j]?=some r->r.u=some u->u.k=k->S (i+j)=true->
 (∀(j':Nat) (r':Rec) (u':oS),rs[j']?=some r'->r'.u=some u'->u'.k=k->j<j'->S (i+j')=false)->cellAt S k i rs f=u.f
 |_,[],_,_,_,_,h,_,_,_,_=>by simp at h
 |i,r0::rs,f,0,r,u,h1,h2,h3,h4,h5=>by
  simp at h1;subst h1
  simp only[cellAt,h2]
  have hb:Nat.beq u.k k=true:=by rw[h3];exact Nat.beq_refl k
  have TP:S i=true:=h4
  rw[hb,TP]
  simp only[Bool.and_self,cond_true]
  have:=zU (S:=S) (S':=λ_=>false) (k:=k) (i+1) rs u.f λj' r' u' g1 g2 g3=>by
   have:=h5 (j'+1) r' u' (by simpa using g1) g2 g3 (by omega)
   rw[show i+1+j'=i+(j'+1) from by omega];exact this
  rw[this]
  exact Fp _ _ _ λ_ _=>rfl
 |i,r0::rs,f,j+1,r,u,h1,h2,h3,h4,h5=>by
  simp only[cellAt]
  exact K4 (i+1) rs _ j r u (by simpa using h1) h2 h3 (by rw[show i+1+j=i+(j+1) from by omega];exact h4) λj' r' u' g1 g2 g3 g4=>by
   have:=h5 (j'+1) r' u' (by simpa using g1) g2 g3 (by omega)
   rw[show i+1+j'=i+(j'+1) from by omega];exact this
theorem K5 {S:Nat->Bool} {k:Nat} {a a':Act}:∀(i:Nat) (rs:List Rec) (f:Act->Own),f a=f a'->(∀(j:Nat) (r:Rec) (u:oS),rs[j]?=some r->r.u=some u->S (i+j)=true->u.f a=u.f a')->cellAt S k i rs f a=cellAt S k i rs f a'
 |_,[],_,h,_=>h
 |i,r::rs,f,h,hd=>by
  simp only[cellAt]
  refine K5 (i+1) rs _ ?_ λj r' u h1 h2 h3=>hd (j+1) r' u (by simpa using h1) h2 (by rw[show i+(j+1)=i+1+j from by omega];exact h3)
  cases hu:r.u with
  |none=>exact h
  |some u=>
   simp only[]
   cases hb:S i&&Nat.beq u.k k with
   |false=>exact h
   |true=>exact hd 0 r u rfl hu (by simp only[Bool.and_eq_true] at hb;exact hb.1)
theorem K6 {S:Nat->Bool} {i:Nat} {r:Rec} {rs:List Rec} {H:List (Act->Own)} (hS:S i=true):iG S (i+1) rs 0 (mw H r.u)=iG S i (r::rs) 0 H:=by
 apply List.ext_getElem?
 intro j
 rw[oT,oT]
 cases hu:r.u with
 |none=>simp[mw,cellAt,hu]
 |some u=>
  simp only[mw,List.getElem?_set]
  by_cases hk:u.k=j
  ·subst hk
   by_cases hl:u.k<H.length
   ·simp[hl,cellAt,hu,hS]
   ·simp[hl]
  ·rw[if_neg hk]
   have hb:Nat.beq u.k j=false:=by
    cases hb:Nat.beq u.k j with
    |false=>rfl
    |true=>exact absurd (Nat.eq_of_beq_eq_true hb) hk
   cases H[j]? with
   |none=>rfl
   |some f=>simp[cellAt,hu,hb]
theorem K7 {S:Nat->Bool} {i:Nat} {rs:List Rec} {H:List (Act->Own)} (h:∀j,i<=j->S j=false):iG S i rs 0 H=H:=by
 apply List.ext_getElem?
 intro j
 rw[oT]
 cases H[j]? with
 |none=>rfl
 |some f=>simp[Fp i rs f h]
def B5 (P:Program) (n:Nat) (ops:Array Oper) (H H':List (Act->Own)) (T:List Nat) (Γ:Env) (o:Oper) (x:AV):Prop:=
 ∀(F:Nat->Own) (W0:World×(Nat->Prop)) (I0 I:Im) (a:Act) (w:World) (Q:Exit->Act->World->Prop),St ⟨W0.1,I0,n,W0.2⟩ I (eC T a F 0 H) Γ a w->
  (∀I' a' w',St ⟨W0.1,I0,n,W0.2⟩ I' (eC T a' F 0 H') (nr o.dst x Γ) a' w'->wpList P ops Q [] a' w')->wpList P ops Q [o] a w
def wc (P:Program) (n:Nat) (ops:Array Oper):Env->List (Act->Own)->List Oper->List Rec->Prop
 |_,_,[],[]=>True
 |Γ,H,o::os,r::rs=>B5 P n ops H (mw H r.u) r.T (Γ.only (o.looksAt ops)) o r.x/\(∀u,r.u=some u->u.fit)/\wc P n ops (nr o.dst r.x Γ) (mw H r.u) os rs
 |_,_,_,_=>False
def fh:Nat->List Oper->List Rec->List oM
 |k,o::os,r::rs=>match o.dst with|some d=>(k,d,r.x)::fh (k+1) os rs|none=>fh (k+1) os rs
 |_,_,_=>[]
theorem Fq:∀(k:Nat) (os:List Oper) (rs:List Rec),(fh k os rs).Pairwise (λe f=>e.1<f.1)/\∀e∈fh k os rs,k<=e.1
 |k,[],_=>by simp[fh]
 |k,o::os,[]=>by simp[fh]
 |k,o::os,r::rs=>by
  have ih:=Fq (k+1) os rs
  simp only[fh]
  split
  ·refine⟨List.pairwise_cons.2 ⟨λe he=>by have:=ih.2 e he;simp;omega,ih.1⟩,λe he=>?_⟩
   rcases List.mem_cons.1 he with rfl|he
   ·simp
   ·have:=ih.2 e he;omega
  ·exact⟨ih.1,λe he=>by have:=ih.2 e he;omega⟩
theorem K8 {e:oM}:∀{k:Nat} {os:List Oper} {rs:List Rec},e∈fh k os rs->∃i o r,os[i]?=some o/\rs[i]?=some r/\e.1=k+i/\o.dst=some e.2.1/\e.2.2=r.x
 |k,[],_,h=>by simp[fh] at h
 |k,o::os,[],h=>by simp[fh] at h
 |k,o::os,r::rs,h=>by
  simp only[fh] at h
  have key:e∈fh (k+1) os rs->∃i o' r',(o::os)[i]?=some o'/\(r::rs)[i]?=some r'/\e.1=k+i/\o'.dst=some e.2.1/\e.2.2=r'.x:=λh=>by
   obtain⟨i,o',r',h1,h2,h3,h4⟩:=K8 h
   exact⟨i+1,o',r',by simpa using h1,by simpa using h2,by omega,h4⟩
  split at h
  ·rename_i d hd
   rcases List.mem_cons.1 h with rfl|h
   ·exact⟨0,o,r,rfl,rfl,rfl,hd,rfl⟩
   ·exact key h
  ·exact key h
theorem TQ {i d:Nat} {o:Oper} {r:Rec} (hd:o.dst=some d):∀{k:Nat} {os:List Oper} {rs:List Rec},os[i]?=some o->rs[i]?=some r->(k+i,d,r.x)∈fh k os rs:=by
 induction i with
 |zero=>intro k os rs h1 h2;cases os<;>cases rs<;>simp at h1 h2;subst h1 h2;simp[fh,hd]
 |succ i ih=>
  intro k os rs h1 h2
  cases os with
  |nil=>simp at h1
  |cons o' os=>cases rs with
   |nil=>simp at h2
   |cons r' rs=>
    simp at h1 h2
    have:=ih (k:=k+1) h1 h2
    rw[show k+(i+1)=k+1+i from by omega]
    simp only[fh]
    split
    ·exact List.mem_cons_of_mem _ this
    ·exact this
def we (Γ:Env):List Oper->List Rec->Env
 |o::os,r::rs=>we (nr o.dst r.x Γ) os rs
 |_,_=>Γ
theorem K9:∀(os:List Oper) (rs:List Rec) (k:Nat) (Γ:Env),we Γ os rs=fe (fh k os rs).reverse++Γ
 |[],_,_,_=>by simp[we,fh,fe]
 |_::_,[],_,_=>by simp[we,fh,fe]
 |o::os,r::rs,k,Γ=>by
  rw[we,K9 os rs (k+1)]
  simp only[fh]
  cases o.dst with
  |none=>rfl
  |some d=>simp[fe,nr]
def zV (H:List (Act->Own)):List Rec->List (Act->Own)
 |r::rs=>zV (mw H r.u) rs
 |[]=>H
theorem La:∀(rs:List Rec) (i:Nat) (H:List (Act->Own)),zV H rs=iG (λ_=>true) i rs 0 H
 |[],i,H=>by
  apply List.ext_getElem?;intro j;rw[oT]
  show H[j]?=_
  cases H[j]?<;>rfl
 |r::rs,i,H=>by rw[zV,La rs (i+1),K6 rfl]
theorem wc.at {P:Program} {n:Nat} {ops:Array Oper} {Γ0:Env}:∀(os:List Oper) (rs:List Rec) (k:Nat) (H:List (Act->Own)) (done:List oM),wc P n ops (fe done++Γ0) H os rs->(∀e∈done,e.1<k)->
 os.length=rs.length/\(∀(i:Nat) (r:Rec) (u:oS),rs[i]?=some r->r.u=some u->u.fit)/\∀(i:Nat) (o:Oper) (r:Rec),os[i]?=some o->rs[i]?=some r->
  B5 P n ops (iG (λj=>decide (j<k+i)) k rs 0 H) (mw (iG (λj=>decide (j<k+i)) k rs 0 H) r.u) r.T ((fe (((fh k os rs).reverse++done).filter λe=>decide (e.1<k+i))++Γ0).only (o.looksAt ops)) o r.x
 |[],[],_,_,_,_,_=>⟨rfl,λi r u h=>by simp at h,λi o r h=>by simp at h⟩
 |o::os,r::rs,k,H,done,h,hd=>by
  obtain⟨h1,hf,h2⟩:=h
  have e0:nr o.dst r.x (fe done++Γ0)=fe (match o.dst with|some d=>(k,d,r.x)::done|none=>done)++Γ0:=by
   cases o.dst with
   |none=>rfl
   |some d=>simp[nr,fe]
  rw[e0] at h2
  have ih:=wc.at os rs (k+1) (mw H r.u) _ h2 (λe he=>by
   split at he
   ·rcases List.mem_cons.1 he with rfl|he
    ·simp
    ·have:=hd e he;omega
   ·have:=hd e he;omega)
  have zE:(fh k (o::os) (r::rs)).reverse++done=(fh (k+1) os rs).reverse++(match o.dst with|some d=>(k,d,r.x)::done|none=>done):=by
   simp only[fh]
   cases o.dst with
   |none=>rfl
   |some d=>simp
  refine⟨by simp[ih.1],λi r' u g1 g2=>?_,λi o' r' ho hr=>?_⟩
  ·cases i with
   |zero=>simp at g1;subst g1;exact hf u g2
   |succ i=>exact ih.2.1 i r' u (by simpa using g1) g2
  ·rw[zE]
   cases i with
   |zero=>
    simp at ho hr;subst ho hr
    have kT:((fh (k+1) os rs).reverse++(match o.dst with|some d=>(k,d,r.x)::done|none=>done)).filter (λe=>decide (e.1<k+0))=done:=by
     rw[List.filter_append]
     have e1:(fh (k+1) os rs).reverse.filter (λe=>decide (e.1<k+0))=[]:=by
      rw[List.filter_eq_nil_iff]
      intro e he
      have:=(Fq (k+1) os rs).2 e (List.mem_reverse.1 he)
      simp;omega
     have e2:done.filter (λe=>decide (e.1<k+0))=done:=by
      rw[List.filter_eq_self];intro e he;simpa using hd e he
     rw[e1]
     split
     ·rw[List.filter_cons]
      simp only[Nat.add_zero,Nat.lt_irrefl,decide_false,Bool.false_eq_true,if_false,List.nil_append]
      simpa using e2
     ·simpa using e2
    rw[kT,K7 λj hj=>by simp;omega]
    exact h1
   |succ i=>
    have:=ih.2.2 i o' r' (by simpa using ho) (by simpa using hr)
    rw[K6 (by simp;omega)] at this
    rw[show k+(i+1)=k+1+i from by omega]
    exact this
 |[],_::_,_,_,_,h,_=>h.elim
 |_::_,[],_,_,_,h,_=>h.elim
abbrev Meta:=List (List Nat×Option (Nat×List Nat))
def Rec.mP (r:Rec):List Nat×Option (Nat×List Nat):=(r.T,r.u.map λu=>(u.k,u.aO))
def qk (l:List Oper) (ms:Meta):Bool:=
 let C:=jZ [] l
 let before:=λ(i j:Nat)=>if j<i then(C.getD i []).contains j else(C.getD j []).contains i
 (l.zipIdx.all λ(o,i)=>(o.after.toList.all λe=>!Region.binds .any e||Nat.blt e.on i)&&
   (slotsOf l.toArray o).all λt=>l.zipIdx.all λ(o',j)=>Nat.beq i j||!(o'.dst==some t)||before i j)&&
 (ms.zipIdx.all λ(m,i)=>(m.1.all λk=>ms.zipIdx.all λ(m',j)=>Nat.beq i j||(match m'.2 with|some u=>!Nat.beq u.1 k|none=>true)||before i j)&&
   (match m.2 with|some u=>m.1.contains u.1|none=>true))&&
 (l.zipIdx.all λ(o,i)=>match o.dst with|none=>true|some d=>ms.zipIdx.all λ(m,j)=>Nat.beq i j||(match m.2 with|some u=>!u.2.contains d|none=>true)||(C.getD j []).contains i)
theorem Fs {i j:Nat} (h:i≠j):Nat.beq i j=false:=by
 cases hb:Nat.beq i j with
 |false=>rfl
 |true=>exact absurd (Nat.eq_of_beq_eq_true hb) h
theorem TR {l:List Oper} {ms:Meta} (h:qk l ms=true) {i:Nat} {o:Oper} (ho:l[i]?=some o):∀e∈o.after.toList,Region.binds .any e=true->e.on<i:=λe he hb=>by
 simp only[qk,List.all_eq_true,Bool.and_eq_true] at h
 have hm:(o,i)∈l.zipIdx:=by rw[List.mem_zipIdx_iff_getElem?];exact ho
 have:=(h.1.1 _ hm).1 e he
 rw[hb] at this
 simpa using this
theorem TS {l:List Oper} {ms:Meta} (h:qk l ms=true) {i:Nat} {o:Oper} (ho:l[i]?=some o):
 ∀t∈slotsOf l.toArray o,∀j o',l[j]?=some o'->i≠j->o'.dst=some t->if j<i then j∈(jZ [] l).getD i [] else i∈(jZ [] l).getD j []:=λt ht j o' mu bj hd=>by
 simp only[qk,List.all_eq_true,Bool.and_eq_true] at h
 have hm:(o,i)∈l.zipIdx:=by rw[List.mem_zipIdx_iff_getElem?];exact ho
 have nZ:(o',j)∈l.zipIdx:=by rw[List.mem_zipIdx_iff_getElem?];exact mu
 have:=(h.1.1 _ hm).2 t ht _ nZ
 simp only[Fs bj,hd,Bool.false_or] at this
 have h4:(!(some t==some t))=false:=by simp
 rw[h4,Bool.false_or] at this
 split
 ·rename_i bw;rw[if_pos bw] at this;simpa using this
 ·rename_i bw;rw[if_neg bw] at this;simpa using this
theorem TU {l:List Oper} {rs:List Rec} (h:qk l (rs.map Rec.mP)=true) {i:Nat} {r:Rec} (hr:rs[i]?=some r):
 (∀k∈r.T,∀j r' u,rs[j]?=some r'->i≠j->r'.u=some u->u.k=k->if j<i then j∈(jZ [] l).getD i [] else i∈(jZ [] l).getD j [])/\∀u,r.u=some u->u.k∈r.T:=by
 simp only[qk,List.all_eq_true,Bool.and_eq_true] at h
 have hm:(r.mP,i)∈(rs.map Rec.mP).zipIdx:=by rw[List.mem_zipIdx_iff_getElem?];simp[hr]
 obtain⟨h1,h2⟩:=h.1.2 _ hm
 refine⟨λk hk j r' u TV bj hu TW=>?_,λu hu=>?_⟩
 ·have nZ:(r'.mP,j)∈(rs.map Rec.mP).zipIdx:=by rw[List.mem_zipIdx_iff_getElem?];simp[TV]
  have:=h1 k hk _ nZ
  have hb:Nat.beq u.k k=true:=by rw[TW];exact Nat.beq_refl k
  simp only[Fs bj,Rec.mP,hu,Option.map_some,hb,Bool.not_true,Bool.false_or] at this
  split
  ·rename_i bw;rw[if_pos bw] at this;simpa using this
  ·rename_i bw;rw[if_neg bw] at this;simpa using this
 ·simp only[Rec.mP,hu,Option.map_some] at h2
  simpa using h2
theorem TX {l:List Oper} {rs:List Rec} (h:qk l (rs.map Rec.mP)=true) {i d:Nat} {o:Oper} (ho:l[i]?=some o) (hd:o.dst=some d) {j:Nat} {r:Rec} {u:oS} (hr:rs[j]?=some r) (hu:r.u=some u) (bj:i≠j) (B6:d∈u.aO):
 i∈(jZ [] l).getD j []:=by
 simp only[qk,List.all_eq_true,Bool.and_eq_true] at h
 have hm:(o,i)∈l.zipIdx:=by rw[List.mem_zipIdx_iff_getElem?];exact ho
 have:=h.2 _ hm
 simp only[hd,List.all_eq_true] at this
 have nZ:(r.mP,j)∈(rs.map Rec.mP).zipIdx:=by rw[List.mem_zipIdx_iff_getElem?];simp[hr]
 have:=this _ nZ
 simp only[Fs bj,Rec.mP,hu,Option.map_some,Bool.false_or,Bool.or_eq_true,Bool.not_eq_true'] at this
 rcases this with h|h
 ·have:u.aO.contains d=true:=by simpa using B6
  rw[this] at h;cases h
 ·simpa using h
section
variable {P:Program} {c:Ctx} {I:Im} {H:List Own} {Γ:Env} {a:Act} {w:World} {Q:Exit->Act->World->Prop}
theorem TY {o:Oper} {K:Act->World->Prop} {Q':Exit->Act->World->Prop} (hq:∀e a w,e≠.normal->Q' e a w->Q e a w) (h:o.wp P a w K Q'):o.wp P a w (λa' w'=>(∃v,a'.tmps=(a.put o.dst v).tmps)/\K a' w') Q:=by
 unfold Oper.wp at h⊢
 generalize (execOp a.eval o).run P w=r at h⊢
 cases r with
 |ok n w'=>
  cases n with
  |enter f args=>
   refine Calls.mono h λe vJ he=>?_
   cases e with
   |returned v=>exact⟨⟨v,rfl⟩,he⟩
   |panicked ch=>exact hq _ _ _ (by simp) he
   |outgrown=>exact let⟨a,w,h⟩:=he;⟨a,w,hq _ _ _ (by simp) h⟩
  |row row args=>exact Rows.mono h λv vJ he=>⟨⟨v,rfl⟩,he⟩
  |value v=>exact⟨⟨v,rfl⟩,h⟩
  |skip=>exact⟨⟨undef,rfl⟩,h⟩
  |defer d=>exact⟨⟨undef,by cases o.dst<;>rfl⟩,h⟩
  |_=>exact h
 |halt x w'=>cases x<;>simp only[Oper.upon] at h⊢<;>first|exact h|exact hq _ _ _ (by simp) h
theorem Lb {T:List Nat} {F:Nat->Own} {Hf:List (Act->Own)} {X:List Own} (hl:X.length=Hf.length) (h:∀j f x,Hf[j]?=some f->X[j]?=some x->x=bif T.contains j then f a else F j):eC T a F 0 Hf=X:=by
 apply List.ext_getElem?
 intro j
 rw[v8]
 cases hf:Hf[j]? with
 |none=>
  have:Hf.length<=j:=by simpa using hf
  rw[List.getElem?_eq_none (by omega)];rfl
 |some f=>
  have hj:j<Hf.length:=(List.getElem?_eq_some_iff.1 hf).1
  have hx:X[j]?=some X[j]:=by simp[hl,hj]
  rw[hx]
  simp only[Option.map_some,Nat.zero_add]
  rw[<-h j f _ hf hx]
theorem St.TZ (U:St c I H Γ a w):St ⟨c.W,I,c.n,c.F⟩ I H Γ a w:=
 ⟨⟨Im.le_refl I,λ_ _ _=>rfl,U.step.c9,U.step.below⟩,U.own,U.env,U.size,U.defers⟩
def zW (pre tail:List Oper) (ms:Meta):Bool:=
 qk (pre++tail) (ms++tail.map λ_=>([],none))&&(List.range tail.length).all λi=>(List.range (pre.length+i)).all λj=>((jZ [] (pre++tail)).getD (pre.length+i) []).contains j
theorem B7 {α:Type} {x y:List α} {i:Nat} {v:α} (h:x[i]?=some v):(x++y)[i]?=some v:=by
 rw[List.getElem?_append_left (List.getElem?_eq_some_iff.1 h).1];exact h
theorem T0 {pre tail:List Oper} {rs:List Rec} {H0:List Own} (Ft:zW pre tail (rs.map Rec.mP)=true) (hlen:pre.length=rs.length) (rF:(pre.all λo=>match o.dst with|some d=>Nat.blt d c.n|none=>true)=true)
 (iT:∀(i:Nat) (r:Rec) (u:oS),rs[i]?=some r->r.u=some u->u.fit)
 (run:∀(i:Nat) (o:Oper) (r:Rec),pre[i]?=some o->rs[i]?=some r->B5 P c.n (pre++tail).toArray (iG (λj=>decide (j<i)) 0 rs 0 (H0.map λo _=>o)) (mw (iG (λj=>decide (j<i)) 0 rs 0 (H0.map λo _=>o)) r.u) r.T ((fe ((fh 0 pre rs).reverse.filter λe=>decide (e.1<i))++Γ).only (o.looksAt (pre++tail).toArray)) o r.x)
 (k:∀I' a' w',St c I' (nu a' (iG (λ_=>true) 0 rs 0 (H0.map λo _=>o))) (fe (fh 0 pre rs).reverse++Γ) a' w'->wpList P (pre++tail).toArray Q tail a' w'):
 ∀(fuel:Nat) (listed:Array Bool) (I:Im) (a:Act) (w:World),listed.size=(pre++tail).length->((List.range (pre++tail).length).filter λi=>!listed.getD i false).length<=fuel->
  (∀i,i<(pre++tail).length->listed.getD i false=true->i<pre.length)->
  (∀(i:Nat) (o:Oper),(pre++tail)[i]?=some o->listed.getD i false=true->∀e∈o.after.toList,Region.binds .any e=true->listed.getD e.on false=true)->
  St c I (nu a (iG (λi=>listed.getD i false) 0 rs 0 (H0.map λo _=>o))) (fe ((fh 0 pre rs).reverse.filter λe=>listed.getD e.1 false)++Γ) a w->wpAny P .any (pre++tail).toArray Q fuel listed a w:=by
 simp only[zW,Bool.and_eq_true,List.all_eq_true] at Ft
 have gf:qk (pre++tail) ((rs++tail.map λ_=>(⟨AV.any,[],none⟩:Rec)).map Rec.mP)=true:=by
  rw[List.map_append,List.map_map];exact Ft.1
 have hT:∀{i j:Nat},pre.length<=i->i<(pre++tail).length->j<i->j∈(jZ [] (pre++tail)).getD i []:=λ{i j} hi iU hj=>by
  have:=Ft.2 (i-pre.length) (by simp at iU⊢;omega) j (by simp;omega)
  rw[show pre.length+(i-pre.length)=i from by omega] at this
  simpa using this
 have hE:∀{i:Nat} {o:Oper},(pre++tail)[i]?=some o->∀e∈o.after.toList,Region.binds .any e=true->e.on<i:=λho=>TR gf ho
 have hL:(fh 0 pre rs).reverse.Pairwise (λe f=>f.1<e.1):=by
  rw[List.pairwise_reverse];exact(Fq 0 pre rs).1
 have rD:∀e∈(fh 0 pre rs).reverse,∃o',pre[e.1]?=some o'/\o'.dst=some e.2.1:=λe he=>by
  obtain⟨j,o',r',g1,_,g3,g4,_⟩:=K8 (List.mem_reverse.1 he)
  exact⟨o',by rw[g3,Nat.zero_add];exact g1,g4⟩
 have Lc:∀(listed:Array Bool) (I:Im) (a:Act) (w:World),(∀i,i<pre.length->listed.getD i false=true)->
  St c I (nu a (iG (λi=>listed.getD i false) 0 rs 0 (H0.map λo _=>o))) (fe ((fh 0 pre rs).reverse.filter λe=>listed.getD e.1 false)++Γ) a w->wpList P (pre++tail).toArray Q tail a w:=λlisted I a w aN U=>by
  refine k I a w ?_
  have e1:(fh 0 pre rs).reverse.filter (λe=>listed.getD e.1 false)=(fh 0 pre rs).reverse:=by
   rw[List.filter_eq_self]
   intro e he
   obtain⟨o',h1,_⟩:=rD e he
   exact aN e.1 (List.getElem?_eq_some_iff.1 h1).1
  have e2:iG (λi=>listed.getD i false) 0 rs 0 (H0.map λo _=>o)=iG (λ_=>true) 0 rs 0 (H0.map λo _=>o):=by
   apply List.ext_getElem?
   intro j
   rw[oT,oT]
   cases(H0.map λ(o:Own) (_:Act)=>o)[j]? with
   |none=>rfl
   |some f=>
    simp only[Option.map_some]
    rw[zU (S:=λi=>listed.getD i false) (S':=λ_=>true) 0 rs f λj r u h1 _ _=>by
     rw[Nat.zero_add];exact aN j (by rw[hlen];exact(List.getElem?_eq_some_iff.1 h1).1)]
  rw[e1,e2] at U
  exact U
 intro fuel
 induction fuel with
 |zero=>
  intro listed I a w cK hf oP bB U
  have h0:∀i,i<(pre++tail).length->listed.getD i false=true:=λi hi=>by
   have:(List.range (pre++tail).length).filter (λi=>!listed.getD i false)=[]:=List.eq_nil_of_length_eq_zero (by omega)
   rw[List.filter_eq_nil_iff] at this
   simpa using this i (by simpa using hi)
  have jS:tail=[]:=by
   rcases tail with _|⟨t,ts⟩
   ·rfl
   ·have:=oP pre.length (by simp) (h0 pre.length (by simp));omega
  have hw:=Lc listed I a w (λi hi=>h0 i (by simp;omega)) U
  exact B0 hE hT 0 (pre++tail).length listed 0 a w (by omega) (by simp) (by omega) (by omega) cK (λi hi=>⟨λ_=>hi,λ_=>h0 i hi⟩) (by subst jS;simpa using hw)
 |succ fuel ih=>
  intro listed I a w cK hf oP bB U
  by_cases aN:∀i,i<pre.length->listed.getD i false=true
  ·refine B0 hE hT _ pre.length listed (fuel+1) a w rfl (by omega) (by simp) (KX hf oP aN) cK (λi hi=>⟨oP i hi,aN i⟩) ?_
   rw[List.drop_left]
   exact Lc listed I a w aN U
  ·have zS:∃i0,i0<pre.length/\listed.getD i0 false=false:=by
    refine Classical.byContradiction λhn=>aN λi hi=>?_
    cases hb:listed.getD i false with
    |true=>rfl
    |false=>exact absurd ⟨i,hi,hb⟩ hn
   obtain⟨i0,zT,tk⟩:=zS
   refine⟨λhr=>?_,λi hi=>?_⟩
   ·exfalso
    have:∀i,i<(pre++tail).length->listed.getD i false=true:=λi=>by
     induction i using Nat.strongRecOn with
     |_ i zB=>
      intro hi
      cases hl:listed.getD i false with
      |true=>rfl
      |false=>
       have jt:i∈Region.ready .any (pre++tail).toArray listed:=by
        refine mem_ready.2 ⟨by rw[xQ (by omega)];exact hl,(pre++tail)[i],by simp[hi],λe he hb=>?_⟩
        have bw:=hE (i:=i) (o:=(pre++tail)[i]) (by simp[hi]) e (by simpa using he) hb
        exact zB e.on bw (by omega)
       rw[hr] at jt;cases jt
    rw[this i0 (by simp;omega)] at tk;cases tk
   ·obtain⟨h1,o,h2,h3⟩:=mem_ready.1 hi
    have bw:i<(pre++tail).length:=by have:=(Array.getElem?_eq_some_iff.1 h2).1;simpa using this
    have xU:(pre++tail)[i]?=some o:=by simpa using h2
    rw[xQ (by omega)] at h1
    have aH:=Fg cK bB xU (λe he hb=>h3 e (by simpa using he) hb)
    have kU:i<pre.length:=by
     refine Classical.byContradiction λhn=>?_
     have:=aH i0 (by omega) (hT (by omega) bw (by omega))
     rw[this] at tk;cases tk
    have j4:∀j,(listed.setIfInBounds i true).getD j false=if j=i then true else listed.getD j false:=λj=>BO (by omega) false
    have Fh:=BM (S:=λj=>listed.getD j false) (pre++tail) [] (λi k hk=>by simp at hk) (λi o ho hi e he hb=>bB i o ho (by simpa using hi) e he hb)
    have Fi:∀(i':Nat) (o':Oper),(pre++tail)[i']?=some o'->(listed.setIfInBounds i true).getD i' false=true->∀e∈o'.after.toList,Region.binds .any e=true->(listed.setIfInBounds i true).getD e.on false=true:=λi' o' mu iU e he hb=>by
     rw[j4] at iU⊢
     split
     ·rfl
     ·split at iU
      ·rename_i zR;subst zR
       rw[xU] at mu;cases mu
       exact h3 e (by simpa using he) hb
      ·exact bB i' o' mu iU e he hb
    have vY:∀j,i∈(jZ [] (pre++tail)).getD j []->listed.getD j false=false:=λj hj=>by
     cases hb:listed.getD j false with
     |false=>rfl
     |true=>rw[Fh j i hj hb] at h1;cases h1
    have Fl:∀j,j<(pre++tail).length->(listed.setIfInBounds i true).getD j false=true->j<pre.length:=λj hj hb=>by
     rw[j4] at hb;split at hb
     ·rename_i e;subst e;exact kU
     ·exact oP j hj hb
    have kv:pre[i]?=some o:=by rw[List.getElem?_append_left kU] at xU;exact xU
    have ku:i<rs.length:=by omega
    have xV:rs[i]?=some rs[i]:=by simp[ku]
    generalize rs[i]=r at xV
    obtain⟨T3,T4⟩:=TU gf (B7 xV)
    have xH:∀k∈r.T,∀j r' u,rs[j]?=some r'->i≠j->r'.u=some u->u.k=k->if j<i then j∈(jZ [] (pre++tail)).getD i [] else i∈(jZ [] (pre++tail)).getD j []:=λk hk j r' u g=>T3 k hk j r' u (B7 g)
    have j3:=run i o r kv xV
    have Fu:∀k∈r.T,∀f,cellAt (λj=>decide (j<i)) k 0 rs f=cellAt (λj=>listed.getD j false) k 0 rs f:=λk hk f=>zU 0 rs f λj r' u g1 g2 g3=>by
     rw[Nat.zero_add]
     by_cases gN:i=j
     ·subst gN;rw[h1];simp
     ·have:=xH k hk j r' u g1 gN g2 g3
      split at this
      ·rename_i oQ;rw[aH j (λe=>gN e.symm) this];simpa using oQ
      ·rename_i oQ;rw[vY j this];simpa using oQ
    have T5:=TS gf xU
    have B1:∀t∈slotsOf (pre++tail).toArray o,∀j o',pre[j]?=some o'->i≠j->o'.dst=some t->if j<i then j∈(jZ [] (pre++tail)).getD i [] else i∈(jZ [] (pre++tail)).getD j []:=λt ht j o' g=>T5 t ht j o' (B7 g)
    have Fj:cP I a ((fe ((fh 0 pre rs).reverse.filter λe=>decide (e.1<i))++Γ).only (o.looksAt (pre++tail).toArray)):=λt y e=>by
     obtain⟨g1,g2⟩:=Env.EP e
     have ht:t∈slotsOf (pre++tail).toArray o:=by
      unfold slotsOf;rw[List.mem_append];exact .inr (by simpa using g2)
     rw[zD (q:=λe=>listed.getD e.1 false) _ (λe he qi=>?_)] at g1
     ·exact U.env t y g1
     ·obtain⟨o',k1,k2⟩:=rD e he
      by_cases rE:e.1=i
      ·rw[rE,h1];simp
      ·have:=B1 t ht e.1 o' k1 (λh=>rE h.symm) (by rw[k2,qi])
       split at this
       ·rename_i oQ;rw[aH e.1 rE this];simpa using oQ
       ·rename_i oQ;rw[vY e.1 this];simpa using oQ
    have Fk:((List.range (pre++tail).length).filter λj=>!(listed.setIfInBounds i true).getD j false).length<=fuel:=by
     have:=filter_lt (l:=List.range (pre++tail).length) (p:=λj=>!listed.getD j false) (q:=λj=>!(listed.setIfInBounds i true).getD j false) (i:=i) (by simpa using bw) (by simp only[h1];rfl) (by simp only[j4];simp) (λj hj=>by
      simp only[j4] at hj;split at hj
      ·cases hj
      ·exact hj)
     omega
    let HS:List (Act->Own):=iG (λi=>listed.getD i false) 0 rs 0 (H0.map λo _=>o)
    let F:Nat->Own:=λk=>match HS[k]? with|some f=>f a|none=>Own.gone
    have T6:eC r.T a F 0 (iG (λj=>decide (j<i)) 0 rs 0 (H0.map λo _=>o))=nu a HS:=Lb (by simp[nu,HS,B4]) λj f x g1 g2=>by
     rw[oT] at g1
     have zX:(nu a HS)[j]?=some x:=g2
     simp only[nu,List.getElem?_map] at zX
     have g3:HS[j]?=((H0.map λ(o:Own) (_:Act)=>o)[j]?).map (cellAt (λi=>listed.getD i false) (0+j) 0 rs):=oT 0 _ j
     cases h0:(H0.map λ(o:Own) (_:Act)=>o)[j]? with
     |none=>rw[h0] at g1;simp at g1
     |some f0=>
      rw[h0] at g1 g3
      simp only[Option.map_some,Option.some.injEq,Nat.zero_add] at g1 g3
      rw[g3] at zX
      simp only[Option.map_some,Option.some.injEq] at zX
      cases hT:r.T.contains j with
      |true=>
       simp only[cond_true]
       rw[<-g1,<-zX,Fu j (by simpa using hT)]
      |false=>
       simp only[cond_false,F,g3,<-zX]
    have T7:St ⟨c.W,I,c.n,c.F⟩ I (eC r.T a F 0 (iG (λj=>decide (j<i)) 0 rs 0 (H0.map λo _=>o))) ((fe ((fh 0 pre rs).reverse.filter λe=>decide (e.1<i))++Γ).only (o.looksAt (pre++tail).toArray)) a w:=by
     rw[T6]
     exact⟨U.TZ.step,U.own,Fj,U.size,U.defers⟩
    have pz:∀I' a' w',(∃v,a'.tmps=(a.put o.dst v).tmps)->St ⟨c.W,I,c.n,c.F⟩ I' (eC r.T a' F 0 (mw (iG (λj=>decide (j<i)) 0 rs 0 (H0.map λo _=>o)) r.u)) (nr o.dst r.x ((fe ((fh 0 pre rs).reverse.filter λe=>decide (e.1<i))++Γ).only (o.looksAt (pre++tail).toArray))) a' w'->
     wpAny P .any (pre++tail).toArray Q fuel (listed.setIfInBounds i true) a' w':=λI' a' w' ⟨v,hv⟩ h'=>by
     refine ih (listed.setIfInBounds i true) I' a' w' (by simpa using cK) Fk Fl Fi ?_
     have zY:∀t,o.dst≠some t->a'.tmps.getD t undef=a.tmps.getD t undef:=λt ht=>by
      rw[hv]
      cases hd:o.dst with
      |none=>rfl
      |some d=>
       have bj:d≠t:=λe=>ht (by rw[hd,e])
       simp[Act.put,bj]
     have en:eC r.T a' F 0 (mw (iG (λj=>decide (j<i)) 0 rs 0 (H0.map λo _=>o)) r.u)=nu a' (iG (λj=>(listed.setIfInBounds i true).getD j false) 0 rs 0 (H0.map λo _=>o)):=Lb (by cases r.u<;>simp[nu,B4,mw]) λj f x g1 g2=>by
      simp only[nu,List.getElem?_map] at g2
      rw[oT] at g2
      cases h0:(H0.map λ(o:Own) (_:Act)=>o)[j]? with
      |none=>rw[h0] at g2;simp at g2
      |some f0=>
       rw[h0] at g2
       simp only[Option.map_some,Option.some.injEq,Nat.zero_add] at g2
       have T8:∀a a',f0 a=f0 a':=by
        rw[List.getElem?_map] at h0
        cases hh:H0[j]? with
        |none=>rw[hh] at h0;simp at h0
        |some o0=>rw[hh] at h0;simp at h0;subst h0;intro _ _;rfl
       have ry:∀(l3:∀u,r.u=some u->u.k≠j),cellAt (λj=>(listed.setIfInBounds i true).getD j false) j 0 rs f0=cellAt (λj=>listed.getD j false) j 0 rs f0:=λl3=>zU 0 rs f0 λj' r' u g3 g4 g5=>by
        rw[Nat.zero_add,j4,if_neg]
        intro e;subst e
        rw[xV] at g3;cases g3
        exact l3 u g4 g5
       cases hT:r.T.contains j with
       |true=>
        simp only[cond_true]
        rw[<-g2]
        have Fv:j∈r.T:=by simpa using hT
        cases hu:r.u with
        |none=>
         rw[hu] at g1
         simp only[mw] at g1
         rw[oT,h0] at g1
         simp only[Option.map_some,Option.some.injEq,Nat.zero_add] at g1
         rw[ry (λu e=>by rw[hu] at e;cases e),<-Fu j Fv,g1]
        |some u=>
         rw[hu] at g1
         simp only[mw] at g1
         by_cases hk:u.k=j
         ·subst hk
          have oQ:u.k<(iG (λj=>decide (j<i)) 0 rs 0 (H0.map λo _=>o)).length:=by
           rw[B4];exact(List.getElem?_eq_some_iff.1 h0).1
          rw[List.getElem?_set_self oQ] at g1
          cases g1
          rw[K4 0 rs f0 i r u xV hu rfl (by rw[Nat.zero_add,j4];simp) λj' r' u' g3 g4 g5 g6=>?_]
          have:=xH u.k Fv j' r' u' g3 (by omega) g4 g5
          rw[if_neg (by omega)] at this
          rw[Nat.zero_add,j4,if_neg (by omega)]
          exact vY j' this
         ·rw[List.getElem?_set_ne hk,oT,h0] at g1
          simp only[Option.map_some,Option.some.injEq,Nat.zero_add] at g1
          rw[ry (λu' e=>by rw[hu] at e;cases e;exact hk),<-Fu j Fv,g1]
       |false=>
        simp only[cond_false]
        rw[<-g2]
        have l3:∀u,r.u=some u->u.k≠j:=λu hu e=>by
         have:=T4 u hu
         rw[e] at this
         have:r.T.contains j=true:=by simpa using this
         rw[hT] at this;cases this
        rw[ry l3]
        have g3:HS[j]?=some (cellAt (λi=>listed.getD i false) j 0 rs f0):=by
         have:=oT (S:=λi=>listed.getD i false) (i:=0) (rs:=rs) 0 (H0.map λ(o:Own) (_:Act)=>o) j
         rw[h0,Nat.zero_add] at this;exact this
        simp only[F,g3]
        refine(K5 0 rs f0 (T8 a' a) λj' r' u' g4 g5 g6=>iT j' r' u' g4 g5 a' a λd hd=>zY d λe=>?_)
        rw[Nat.zero_add] at g6
        by_cases gN:i=j'
        ·subst gN;have zZ:listed.getD i false=true:=g6;rw[h1] at zZ;cases zZ
        ·have zZ:listed.getD j' false=true:=g6
         rw[vY j' (TX gf xU e (B7 g4) g5 gN hd)] at zZ;cases zZ
     rw[en] at h'
     have zK:fC c.F c.I c.W I' w':=⟨Im.le_trans U.step.le h'.step.le,λb hb hf=>(h'.step.gH b hb hf).trans (U.step.gH b hb hf),h'.step.c9,h'.step.below⟩
     refine⟨zK,h'.own,?_,h'.size,h'.defers⟩
     intro t y e
     by_cases tl:o.dst=some t
     ·have uD:(i,t,r.x)∈(fh 0 pre rs).reverse:=by
       rw[List.mem_reverse]
       have:=TQ tl (k:=0) kv xV
       rwa[Nat.zero_add] at this
      rw[ER (i:=i) (x:=r.x) _ hL uD (by simp only[j4];simp) (λe he hp qi=>?_)] at e
      ·cases e
       exact h'.env t r.x (by rw[tl];simp[nr,Env.get])
      ·obtain⟨o',k1,k2⟩:=rD e he
       by_cases hle:e.1<=i
       ·exact hle
       ·have bj:i≠e.1:=by omega
        have:=B1 t (by unfold slotsOf;rw[List.mem_append];exact .inl (by simp[tl])) e.1 o' k1 bj (by rw[k2,qi])
        rw[if_neg (by omega)] at this
        have T9:¬e.1=i:=λh=>bj h.symm
        rw[j4,if_neg T9,vY e.1 this] at hp;cases hp
     ·rw[zD (q:=λe=>listed.getD e.1 false) _ (λe he qi=>?_)] at e
      ·have:=U.env t y e
       rw[zY t tl]
       exact y.up _ _ _ h'.step.le this
      ·obtain⟨o',k1,k2⟩:=rD e he
       have bj:e.1≠i:=λh=>by
        rw[h,kv] at k1;cases k1
        exact tl (by rw[k2,qi])
       simp only[j4,if_neg bj]
    let Q':Exit->Act->World->Prop:=λe a' w'=>match e with
     |.normal=>∃I',St ⟨c.W,I,c.n,c.F⟩ I' (eC r.T a' F 0 (mw (iG (λj=>decide (j<i)) 0 rs 0 (H0.map λo _=>o)) r.u)) (nr o.dst r.x ((fe ((fh 0 pre rs).reverse.filter λe=>decide (e.1<i))++Γ).only (o.looksAt (pre++tail).toArray))) a' w'
     |e=>Q e a' w'
    have hQ:∀e a w,e≠.normal->Q' e a w->Q e a w:=λe a w hn h=>by
     cases e<;>first|exact absurd rfl hn|exact h
    have lz:=j3 F (c.W,c.F) I I a w Q' T7 λI' a' w' h'=>⟨I',h'⟩
    unfold wpOp
    simp only[h2]
    unfold wpList at lz
    by_cases hw:Region.wanted o (yielded (pre++tail).toArray a.tmps)=true
    ·rw[if_pos hw] at lz⊢
     rcases lz with lz|⟨h5,h6⟩
     ·exact .inl (Oper.wp_mono (λa' w' h=>h) (Oper.wp_mono (λa' w' ⟨hv,I',h'⟩=>pz I' a' w' hv h') (TY hQ lz)))
     ·exact .inr ⟨h5,let⟨a,w,h⟩:=h6;⟨a,w,hQ _ a w (by simp) h⟩⟩
    ·rw[if_neg hw] at lz⊢
     obtain⟨I',h'⟩:=lz
     exact pz I' _ w ⟨undef,rfl⟩ h'
def aS (P:Program) (c:Ctx) (ops:Array Oper) (Q:Exit->Act->World->Prop) (Γ:Env) (H:List (Act->Own)) (os:List Oper) (ms:Meta):Prop:=
 ∃rs,rs.map Rec.mP=ms/\wc P c.n ops Γ H os rs/\∀I' a' w',St c I' (nu a' (zV H rs)) (we Γ os rs) a' w'->Q .normal a' w'
theorem aS.nil {ops:Array Oper} {Hf:List (Act->Own)} (k:∀I' a' w',St c I' (nu a' Hf) Γ a' w'->Q .normal a' w'):aS P c ops Q Γ Hf [] []:=⟨[],rfl,trivial,k⟩
theorem aS.cons {ops:Array Oper} {Hf:List (Act->Own)} {o:Oper} {os:List Oper} {x:AV} {T:List Nat} {u:Option oS} {ms:Meta} (hu:∀v,u=some v->v.fit) (h:B5 P c.n ops Hf (mw Hf u) T (Γ.only (o.looksAt ops)) o x) (k:aS P c ops Q (nr o.dst x Γ) (mw Hf u) os ms):
 aS P c ops Q Γ Hf (o::os) ((T,u.map λu=>(u.k,u.aO))::ms):=
 let⟨rs,h1,h2,h3⟩:=k;⟨⟨x,T,u⟩::rs,by simp[Rec.mP,h1],⟨h,hu,h2⟩,h3⟩
theorem St.Ld {id:Nat} {pre tail:List Oper} {rs:List Rec} (U:St c I H Γ a w) (hm:P.follows .mixedOrders=true) (gf:zW pre tail (rs.map Rec.mP)=true) (hd:(pre.all λo=>match o.dst with|some d=>Nat.blt d c.n|none=>true)=true)
 (run:wc P c.n (pre++tail).toArray Γ (H.map λo _=>o) pre rs) (k:∀I' a' w',St c I' (nu a' (zV (H.map λo _=>o) rs)) (we Γ pre rs) a' w'->wpList P (pre++tail).toArray Q tail a' w'):(Code.region id (pre++tail).toArray true).wp P Q a w:=by
 refine wp_region_any hm ?_
 obtain⟨hlen,iT,j3⟩:=wc.at (Γ0:=Γ) pre rs 0 _ [] (by simpa[fe] using run) (λe he=>by simp at he)
 have hf:∀i:Nat,(Array.replicate (pre++tail).length false).getD i false=false:=λi=>by
  rw[Array.getD_eq_getD_getElem?,Array.getElem?_replicate];split<;>rfl
 have:=T0 (P:=P) (c:=c) (H0:=H) (Γ:=Γ) (Q:=Q) gf hlen hd iT (λi o r ho hr=>by simpa using j3 i o r ho hr) (λI' a' w' h=>by
  rw[<-K9,<-La] at h;exact k I' a' w' h) (pre++tail).length (Array.replicate (pre++tail).length false) I a {w with drawn:=w.drawn+1} (by simp)
  (by simpa using List.length_filter_le _ (List.range (pre++tail).length)) (λi hi h=>by rw[hf] at h;cases h) (λi o ho hi=>by rw[hf] at hi;cases hi) (by
    have he:(fh 0 pre rs).reverse.filter (λe=>(Array.replicate (pre++tail).length false).getD e.1 false)=[]:=by
     rw[List.filter_eq_nil_iff];intro e _;rw[hf];simp
    have hh:nu a (iG (λi=>(Array.replicate (pre++tail).length false).getD i false) 0 rs 0 (H.map λo _=>o))=H:=by
     rw[K7 λj _=>hf j];simp[nu,Function.comp_def]
    rw[he,hh]
    exact⟨⟨U.step.le,U.step.gH,U.step.c9,U.step.below.drew⟩,⟨λo ho=>⟨o.iR I I w _ (Im.le_refl I) (λ_ _=>rfl) (U.own.all o ho).1,(U.own.all o ho).2⟩,U.own.nodup⟩,U.env,U.size,U.defers⟩)
 simpa using this
theorem St.eo {id:Nat} {l:List Oper} (ms:Meta) (U:St c I H Γ a w) (hm:P.follows .mixedOrders=true) (gf:qk l ms=true) (hd:(l.all λo=>match o.dst with|some d=>Nat.blt d c.n|none=>true)=true)
 (run:aS P c l.toArray Q Γ (H.map λo _=>o) l ms):(Code.region id l.toArray true).wp P Q a w:=by
 obtain⟨rs,h0,run,k⟩:=run
 subst h0
 have:=U.Ld (id:=id) (Q:=Q) (pre:=l) (tail:=[]) (rs:=rs) hm (by simpa[zW] using gf) hd (by rw[List.append_nil];exact run) λI' a' w' h=>wpList_nil (k I' a' w' h)
 rwa[List.append_nil] at this
end
theorem Le {a a':Act} {F:Nat->Own} {Hf:List (Act->Own)}:eC [] a F 0 Hf=eC [] a' F 0 Hf:=by
 apply List.ext_getElem?
 intro j;rw[v8,v8];rfl
theorem oV {k:Nat} {a a':Act} {F:Nat->Own} {Hf:List (Act->Own)} {f:Act->Own} {O:Own} (h:O=f a'):(eC [k] a F 0 Hf).set k O=eC [k] a' F 0 (Hf.set k f):=by
 apply List.ext_getElem?
 intro j
 rw[v8,List.getElem?_set,List.getElem?_set,v8]
 have hl:(eC [k] a F 0 Hf).length=Hf.length:=by
  have:∀(n:Nat) (L:List (Act->Own)),(eC [k] a F n L).length=L.length:=by
   intro n L;induction L generalizing n with
   |nil=>rfl
   |cons x L ih=>simp[eC,ih]
  exact this 0 Hf
 rw[hl]
 by_cases hk:k=j
 ·subst hk
  by_cases bw:k<Hf.length
  ·simp[bw,h]
  ·simp[bw]
 ·rw[if_neg hk,if_neg hk]
  have hc:([k].contains (0+j))=false:=by simp;omega
  rw[hc];rfl
section
variable {P:Program} {c:Ctx} {I:Im} {H:List Own} {Γ:Env} {a:Act} {w:World} {Q:Exit->Act->World->Prop} {ops:Array Oper} {Hf:List (Act->Own)} {os:List Oper} {ms:Meta}
theorem St.pass {H':List Own} (U:St c I H Γ a w) (h:H=H'):St c I H' Γ a w:=h▸U
theorem aS.op {o:Oper} {d:Nat} {x:AV} (hg:o.guard=none) (ho:o.dst=some d) (hd:Nat.blt d c.n=true) (h:∀F a,Ok P (eC [] a F 0 Hf) (Γ.only (o.looksAt ops)) true o x)
 (k:aS P c ops Q ((d,x)::Γ) Hf os ms):aS P c ops Q Γ Hf (o::os) (([],none)::ms):=
 aS.cons (u:=none) (x:=x) (λv e=>by cases e) (λF W0 I0 I a w Q U kk=>U.op hg ho hd (h F a) λI' a' w' ct=>kk I' a' w' (by rw[ho];exact ct.pass Le)) (by rw[ho];exact k)
theorem aS.BK {o:Oper} {d:Nat} {x:AV} {G:Bool} (hg:jG ops (Γ.only (o.looksAt ops)) o G) (ho:o.dst=some d) (hd:Nat.blt d c.n=true) (h:∀F a,Ok P (eC [] a F 0 Hf) (Γ.only (o.looksAt ops)) G o x)
 (k:aS P c ops Q ((d,.cond G x)::Γ) Hf os ms):aS P c ops Q Γ Hf (o::os) (([],none)::ms):=
 aS.cons (u:=none) (x:=.cond G x) (λv e=>by cases e) (λF W0 I0 I a w Q U kk=>U.BK hg ho hd (h F a) λI' a' w' ct=>kk I' a' w' (by rw[ho];exact ct.pass Le)) (by rw[ho];exact k)
theorem aS.Ua {o:Oper} {d:Nat} {x:AV} (T:List Nat) (hc:∀F a a',eC T a F 0 Hf=eC T a' F 0 Hf) (hg:o.guard=none) (ho:o.dst=some d) (hd:Nat.blt d c.n=true) (h:∀F a,Ok P (eC T a F 0 Hf) (Γ.only (o.looksAt ops)) true o x)
 (k:aS P c ops Q ((d,x)::Γ) Hf os ms):aS P c ops Q Γ Hf (o::os) ((T,none)::ms):=
 aS.cons (u:=none) (x:=x) (λv e=>by cases e) (λF W0 I0 I a w Q U kk=>U.op hg ho hd (h F a) λI' a' w' ct=>kk I' a' w' (by rw[ho];exact ct.pass (hc F a a'))) (by rw[ho];exact k)
theorem aS.iW {o:Oper} {x:AV} {O:Own} (k:Nat)
 (h:∀(F:Nat->Own) (W0:World×(Nat->Prop)) (I0 I:Im) (a:Act) (w:World) (Q:Exit->Act->World->Prop),St ⟨W0.1,I0,c.n,W0.2⟩ I (eC [k] a F 0 Hf) (Γ.only (o.looksAt ops)) a w->
   (∀I' a' w',St ⟨W0.1,I0,c.n,W0.2⟩ I' ((eC [k] a F 0 Hf).set k O) (nr o.dst x (Γ.only (o.looksAt ops))) a' w'->wpList P ops Q [] a' w')->wpList P ops Q [o] a w)
 (r:aS P c ops Q (nr o.dst x Γ) (Hf.set k λ_=>O) os ms):aS P c ops Q Γ Hf (o::os) (([k],some (k,[]))::ms):=
 aS.cons (u:=some ⟨k,[],λ_=>O⟩) (x:=x) (λv e=>by cases e;intro _ _ _;rfl) (λF W0 I0 I a w Q U kk=>h F W0 I0 I a w Q U λI' a' w' ct=>kk I' a' w' (ct.pass (oV rfl))) r
theorem St.z0 {x:Own} (k:Nat) (U:St c I (H++[x]) Γ a w) (hk:H[k]?=some Own.gone):St c I (H.set k x) Γ a w:=by
 refine⟨U.step,⟨λo ho=>?_,?_⟩,U.env,U.size,U.defers⟩
 ·rcases List.mem_or_eq_of_mem_set ho with ho|rfl
  ·exact U.own.all o (List.mem_append_left _ ho)
  ·exact U.own.all _ (by simp)
 ·have hn:=U.own.nodup
  rw[List.filterMap_append,List.nodup_append] at hn
  refine s9 hn.1 λb hb=>.inr λy hy e=>?_
  exact hn.2.2 b (List.mem_filterMap.2 ⟨y,hy,e⟩) b (List.mem_filterMap.2 ⟨x,by simp,hb⟩) rfl
theorem St.fT (U:St c I H Γ a w):St c I (H++[Own.gone]) Γ a w:=
 ⟨U.step,⟨λy hy=>by
  rcases List.mem_append.1 hy with hy|hy
  ·exact U.own.all y hy
  ·obtain rfl:=by simpa using hy
   exact⟨trivial,λb e=>by cases e⟩,
  by rw[List.filterMap_append];simpa[Own.gone] using U.own.nodup⟩,U.env,U.size,U.defers⟩
theorem my {k:Nat} {a:Act} {F:Nat->Own} {f:Act->Own} (h:Hf[k]?=some f):(eC [k] a F 0 Hf)[k]?=some (f a):=by
 rw[v8,h];simp
variable {T T' E ty:TypeId} {p:String} {af:Array Edge} {ag:Bool} {n m d:Nat} {zv:Value} {l lx:List AV} {z y:Operand}
theorem B8 {a:Act} {b:Nat} (h:a.tmps.getD d undef=.pointer (some ⟨b,0,none⟩)):oR T l (a.tmps.getD d undef)=Own.box b T l:=by rw[h];rfl
theorem uL {k:Nat} {g:Value->Own} (h:∀v v',v=v'->g v=g v'):∀v,(some (⟨k,[d],λa=>g (a.tmps.getD d undef)⟩:oS))=some v->v.fit:=λv e=>by
 cases e;intro a a' hh
 exact h _ _ (hh d (by simp))
theorem aS.alloc (k:Nat) (hk:Hf[k]?=some λ_=>Own.gone) (hd:Nat.blt d c.n=true) (hT:Ty P T ag n m zv) (hz:∀I,bJ I l zv.cells.toList)
 (r:aS P c ops Q ((d,AV.vZ)::Γ) (Hf.set k λa=>oR T l (a.tmps.getD d undef)) os ms):aS P c ops Q Γ Hf (⟨some d,.alloc T,ty,p,af,none⟩::os) (([k],some (k,[d]))::ms):=
 aS.cons (u:=some ⟨k,[d],λa=>oR T l (a.tmps.getD d undef)⟩) (x:=AV.vZ) (uL λv v' e=>e▸rfl) (λF W0 I0 I a w Q U kk=>U.alloc hd hT hz λb I' a' w' ct=>by
  have hv:a'.tmps.getD d undef=.pointer (some ⟨b,0,none⟩):=ct.env d (.val (.pointer (some ⟨b,0,none⟩))) (by simp[Env.get])
  refine kk I' a' w' ?_
  have h1:=(ct.z0 k (my hk)).pass (oV (f:=λa=>oR T l (a.tmps.getD d undef)) (B8 hv).symm)
  exact⟨h1.step,h1.own,λt x e=>by
   simp only[nr,Env.get] at e
   cases hb:Nat.beq d t with
   |true=>
    rw[hb] at e;simp only[cond_true] at e;cases e
    obtain rfl:d=t:=Nat.eq_of_beq_eq_true hb
    exact⟨b,hv⟩
   |false=>rw[hb] at e;exact h1.env t x (by simp only[Env.get,hb];exact e),h1.size,h1.defers⟩) r
theorem aS.mz (k:Nat) (hk:Hf[k]?=some λa=>oR T' l (a.tmps.getD d undef)) (hT:Ty P T true n m zv) (hy:Env.get d (Γ.only ((⟨none,.store T (.tmp d) z,ty,p,af,none⟩:Oper).looksAt ops))=some AV.vZ)
 (hz:At (Γ.only ((⟨none,.store T (.tmp d) z,ty,p,af,none⟩:Oper).looksAt ops)) true z (.agg lx)) (hn:lx.length=n) (hl:l.length=n)
 (r:aS P c ops Q Γ (Hf.set k λa=>oR T' lx (a.tmps.getD d undef)) os ms):aS P c ops Q Γ Hf (⟨none,.store T (.tmp d) z,ty,p,af,none⟩::os) (([k],some (k,[d]))::ms):=
 aS.cons (u:=some ⟨k,[d],λa=>oR T' lx (a.tmps.getD d undef)⟩) (x:=AV.any) (uL λv v' e=>e▸rfl) (λF W0 I0 I a w Q U kk=>by
  obtain⟨b,hb⟩:=U.env d _ hy
  obtain⟨cs,hv,xN⟩:=hz I a U.env rfl
  have eY:=my (a:=a) (F:=F) hk
  rw[B8 hb] at eY
  obtain⟨w',hr,ct⟩:=U.BP (q:=0) (lx:=lx) (v:=a.eval z) k hT eY (by rw[hv];exact xN) hn (by rw[hl];simp)
  have e:fy l 0 lx=lx:=by simp[fy];omega
  rw[e] at ct
  exact jI rfl (xM hb rfl hr (kk I _ w' (ct.pass (oV (f:=λa=>oR T' lx (a.tmps.getD d undef)) (B8 hb).symm))))) r
theorem St.lC (k:Nat) (U:St c I H Γ a w) (hd:Env.get d Γ=some AV.vZ) (hk:H[k]?=some (oR T l (a.tmps.getD d undef))):∃b,St c I (H.set k (Own.box b T l)) ((d,.val (.pointer (some ⟨b,0,none⟩)))::Γ) a w:=by
 obtain⟨b,hb⟩:∃b,a.tmps.getD d undef=.pointer (some ⟨b,0,none⟩):=U.env d _ hd
 rw[B8 hb] at hk
 have e:H.set k (Own.box b T l)=H:=by
  apply List.ext_getElem?;intro j
  rw[List.getElem?_set]
  split
  ·rename_i e;subst e
   rw[hk];simp[(List.getElem?_eq_some_iff.1 hk).1]
  ·rfl
 refine⟨b,U.step,by rw[e];exact U.own,λt x e=>?_,U.size,U.defers⟩
 simp only[Env.get] at e
 cases n9:Nat.beq d t with
 |true=>
  rw[n9] at e;simp only[cond_true] at e;cases e
  obtain rfl:d=t:=Nat.eq_of_beq_eq_true n9
  exact hb
 |false=>rw[n9] at e;exact U.env t x (by simpa using e)
theorem aS.xW {d':Nat} {sz:Nat} {l l2:List (List AV)} (k:Nat) (hk:Hf[k]?=some λa=>Own.row (a.tmps.getD d' undef) E sz l) (hd:Nat.blt d c.n=true) (hU:P.underlying T=some (.slice E)) (hE:Ty P E ag sz m zv) (ga:zv.cells.size=sz)
 (hz:At (Γ.only ((⟨some d,.call ⟨.builtin .append,#[.tmp d',z],#[T,T]⟩,ty,p,af,none⟩:Oper).looksAt ops)) true z (.rows sz l2))
 (hb:(l.length+l2.length)*m<=140737488355328/\l.length+l2.length<=140737488355328)
 (r:aS P c ops Q ((d,.rows sz (l++l2))::Γ) (Hf.set k λ_=>Own.gone) os ms):aS P c ops Q Γ Hf (⟨some d,.call ⟨.builtin .append,#[.tmp d',z],#[T,T]⟩,ty,p,af,none⟩::os) (([k],some (k,[]))::ms):=
 aS.cons (u:=some ⟨k,[],λ_=>Own.gone⟩) (x:=.rows sz (l++l2)) (λv e=>by cases e;intro _ _ _;rfl) (λF W0 I0 I a w Q U kk=>by
  have eY:=my (a:=a) (F:=F) hk
  obtain⟨v',w',hr,ct⟩:=U.BT (ty:=ty) k hU hE ga eY (hz I a U.env rfl) hb.1 (by simp only[maxLen];omega)
  refine jI rfl ?_
  unfold Oper.wp
  have e1:a.eval (.tmp d')=a.tmps.getD d' undef:=rfl
  simp only[execOp,resolve,invoke,builtin,Sem.run_bind,Sem.run_pure,Result.andThen_ok,List.map_toArray,List.map_cons,List.map_nil,e1,hr]
  have lD:=ct.nj ct.step (Im.le_refl _) ct.own hd (x:=.val v') rfl
  obtain⟨I',dC,hf⟩:=lD.uC k (by rw[List.getElem?_set_self (List.getElem?_eq_some_iff.1 eY).1])
  rw[List.set_set] at dC
  have oa:=dC.xO (t:=d) (by simp[Env.get]) hf
  refine kk I' _ w' ((oa.le λt x e=>?_).pass (oV rfl))
  simp only[nr,Env.get] at e⊢
  cases n9:Nat.beq d t with
  |true=>rw[n9] at e;exact e
  |false=>rw[n9] at e;simpa using e) r
def AV.mQ:AV:=⟨λ_ v=>v.oneCell'=true,λ_ _ _ _ h=>h⟩
theorem aS.Fw {v:Value} {sz:Nat} {l l2:List (List AV)} (k:Nat) (hk:Hf[k]?=some λ_=>Own.row v E sz l) (hd:Nat.blt d c.n=true) (hU:P.underlying T=some (.slice E)) (hE:Ty P E ag sz m zv) (ga:zv.cells.size=sz)
 (hy:At (Γ.only ((⟨some d,.call ⟨.builtin .append,#[y,z],#[T,T]⟩,ty,p,af,none⟩:Oper).looksAt ops)) true y (.val v)) (hz:At (Γ.only ((⟨some d,.call ⟨.builtin .append,#[y,z],#[T,T]⟩,ty,p,af,none⟩:Oper).looksAt ops)) true z (.rows sz l2))
 (hb:(l.length+l2.length)*m<=140737488355328/\l.length+l2.length<=140737488355328)
 (r:aS P c ops Q ((d,AV.mQ)::Γ) (Hf.set k λa=>Own.row (a.tmps.getD d undef) E sz (l++l2)) os ms):aS P c ops Q Γ Hf (⟨some d,.call ⟨.builtin .append,#[y,z],#[T,T]⟩,ty,p,af,none⟩::os) (([k],some (k,[d]))::ms):=
 aS.cons (u:=some ⟨k,[d],λa=>Own.row (a.tmps.getD d undef) E sz (l++l2)⟩) (x:=AV.mQ) (uL (g:=λv=>Own.row v E sz (l++l2)) λv v' e=>e▸rfl) (λF W0 I0 I a w Q U kk=>U.append k hd hU hE ga hy hz (my hk) hb λv' a' w' ct=>by
  have hv:a'.tmps.getD d undef=v':=ct.env d (.val v') (by simp[Env.get])
  have wg:=ct.own.all (Own.row v' E sz (l++l2)) (List.mem_of_getElem? (i:=k) (by rw[List.getElem?_set_self (List.getElem?_eq_some_iff.1 (my (a:=a) (F:=F) hk)).1]))
  have h1:=ct.pass (oV (a':=a') (f:=λa=>Own.row (a.tmps.getD d undef) E sz (l++l2)) (by rw[hv]))
  exact kk I a' w' ⟨h1.step,h1.own,λt x e=>by
   simp only[nr,Env.get] at e
   cases hb:Nat.beq d t with
   |true=>
    rw[hb] at e;simp only[cond_true] at e;cases e
    obtain rfl:d=t:=Nat.eq_of_beq_eq_true hb
    show(a'.tmps.getD d undef).oneCell'=true
    rw[hv]
    obtain⟨_,⟨_,rfl|⟨q,rfl,_⟩⟩|⟨b,cap,cur,rfl,_⟩⟩:=wg.1<;>rfl
   |false=>rw[hb] at e;exact h1.env t x (by simp only[Env.get,hb];exact e),h1.size,h1.defers⟩) r
theorem aS.B9 {d' b q:Nat} {l:List AV} (k:Nat) (hk:Hf[k]?=some λ_=>Own.box b T' l) (hT:Ty P T false 1 m zv) (hy:At (Γ.only ((⟨none,.store T y (.tmp d'),ty,p,af,none⟩:Oper).looksAt ops)) true y (.val (.pointer (some ⟨b,q,none⟩))))
 (hz:Env.get d' (Γ.only ((⟨none,.store T y (.tmp d'),ty,p,af,none⟩:Oper).looksAt ops))=some AV.mQ) (hq:Nat.blt q l.length=true)
 (r:aS P c ops Q Γ (Hf.set k λa=>Own.box b T' (l.set q (.val (a.tmps.getD d' undef)))) os ms):aS P c ops Q Γ Hf (⟨none,.store T y (.tmp d'),ty,p,af,none⟩::os) (([k],some (k,[d']))::ms):=
 aS.cons (u:=some ⟨k,[d'],λa=>Own.box b T' (l.set q (.val (a.tmps.getD d' undef)))⟩) (x:=AV.any) (uL (g:=λv=>Own.box b T' (l.set q (.val v))) λv v' e=>e▸rfl) (λF W0 I0 I a w Q U kk=>by
  have hb:=hy I a U.env rfl
  have h1:(a.tmps.getD d' undef).oneCell'=true:=U.env d' _ hz
  have hc:=zG h1
  have Kx:q<l.length:=by simpa using hq
  obtain⟨w',hr,ct⟩:=U.BP (q:=q) (lx:=[.val (a.tmps.getD d' undef)]) (v:=a.tmps.getD d' undef) k hT (my hk) (by rw[hc];exact⟨⟨rfl,h1⟩,trivial⟩) rfl (by simp;omega)
  rw[Ky Kx] at ct
  exact jI rfl (xM hb rfl hr (kk I _ w' (ct.pass (oV (f:=λa=>Own.box b T' (l.set q (.val (a.tmps.getD d' undef)))) rfl))))) r
def AV.bare:AV:=⟨λ_ v=>vL v,λ_ _ _ _ h=>h⟩
theorem rG {H:List Own} {g:Bool} {d:Option Tmp} {gd:Option (Nat×Bool)} {sz:Nat} (hT:P.underlying T=some (.slice E)) (hE:Ty P E ag sz m zv):Ok P H Γ g ⟨d,.buildSlice T 0 #[],ty,p,af,gd⟩ AV.bare:=
 λbase I a w K Q he hm hw hg k=>by
  have jJ:(sizeOf E).run P w=.ok sz w:=hE.size
  have hr:(Instr.buildSlice T 0 ((#[]:Array (Nat×Operand)).map λ(i,x)=>(i,a.eval x))).run P w=.ok (.slice (some ⟨w.heap.size,0,none⟩) 0 0) (w.alloc (.cells #[] E)):=by
   simp only[Instr.buildSlice,Sem.run_bind,run_underlying hT,Result.andThen_ok,jJ]
   have e0:Array.range 0=#[]:=rfl
   simp[Instr.fill,BW,e0]
  unfold Oper.wp
  simp only[execOp,Sem.run_bind,hr,Result.andThen_ok,Sem.run_pure,Oper.upon_value]
  exact k _ I _ (.inr ⟨⟨w.heap.size,0,none⟩,rfl,rfl⟩) (Step.alloc hm (.cells #[] E))
theorem Ca {H:List Own} {g:Bool} {d:Option Tmp} {gd:Option (Nat×Bool)} {sz:Nat} {l2:List (List AV)} (hU:P.underlying T=some (.slice E)) (hE:Ty P E ag sz m zv) (ga:zv.cells.size=sz) (hy:At Γ g y AV.bare) (hz:At Γ g z (.rows sz l2)) (hb:g=true->l2.length*m<=140737488355328/\l2.length<=140737488355328):
 Ok P H Γ g ⟨d,.call ⟨.builtin .append,#[y,z],#[T,T]⟩,ty,p,af,gd⟩ (.rows sz l2):=
 λbase I a w K Q he hm hw hg k=>by
  have tc:vL (a.eval y):=hy I a he hg
  have uM:St ⟨w,I,0,lu⟩ I [] [] {tmps:=#[],defers:=[]} w:=⟨fC.refl hm,cj.nil _ _ _,λt x e=>by simp[Env.get] at e,rfl,rfl⟩
  have jJ:=uM.BR (sz:=sz) E tc
  obtain⟨v',w',hr,dC⟩:=jJ.BT (ty:=ty) 0 hU hE ga rfl (hz I a he hg) (by simpa using(hb hg).1) (by have:=(hb hg).2;simp only[maxLen];simp;omega)
  obtain⟨I',oa,hv⟩:=dC.uC 0 rfl
  unfold Oper.wp
  simp only[execOp,resolve,invoke,builtin,Sem.run_bind,Sem.run_pure,Result.andThen_ok,List.map_toArray,List.map_cons,List.map_nil,hr]
  exact k v' I' w' hv oa.step.all
theorem aS.wh {sz:Nat} {l2:List (List AV)} (k:Nat) (hk:Hf[k]?=some λ_=>Own.gone) (hd:Nat.blt d c.n=true) (hU:P.underlying T=some (.slice E)) (hE:Ty P E ag sz m zv) (ga:zv.cells.size=sz)
 (hy:At (Γ.only ((⟨some d,.call ⟨.builtin .append,#[y,z],#[T,T]⟩,ty,p,af,none⟩:Oper).looksAt ops)) true y AV.bare) (hz:At (Γ.only ((⟨some d,.call ⟨.builtin .append,#[y,z],#[T,T]⟩,ty,p,af,none⟩:Oper).looksAt ops)) true z (.rows sz l2))
 (hb:l2.length*m<=140737488355328/\l2.length<=140737488355328)
 (r:aS P c ops Q ((d,AV.mQ)::Γ) (Hf.set k λa=>Own.row (a.tmps.getD d undef) E sz l2) os ms):aS P c ops Q Γ Hf (⟨some d,.call ⟨.builtin .append,#[y,z],#[T,T]⟩,ty,p,af,none⟩::os) (([k],some (k,[d]))::ms):=
 aS.cons (u:=some ⟨k,[d],λa=>Own.row (a.tmps.getD d undef) E sz l2⟩) (x:=AV.mQ) (uL (g:=λv=>Own.row v E sz l2) λv v' e=>e▸rfl) (λF W0 I0 I a w Q U kk=>by
  have tc:vL (a.eval y):=hy I a U.env rfl
  have hlen:=List.getElem?_eq_some_iff.1 (my (a:=a) (F:=F) hk)
  have jJ:=(U.BR (sz:=sz) E tc).z0 k (my (a:=a) (F:=F) hk)
  have kg:((eC [k] a F 0 Hf).set k (Own.row (a.eval y) E sz []))[k]?=some (Own.row (a.eval y) E sz []):=by rw[List.getElem?_set_self hlen.1]
  obtain⟨v',w',hr,ct⟩:=jJ.BT (ty:=ty) k hU hE ga kg (hz I a U.env rfl) (by simpa using hb.1) (by simp only[maxLen];simp;omega)
  rw[List.set_set,List.nil_append] at ct
  refine jI rfl ?_
  unfold Oper.wp
  simp only[execOp,resolve,invoke,builtin,Sem.run_bind,Sem.run_pure,Result.andThen_ok,List.map_toArray,List.map_cons,List.map_nil,hr]
  have wg:=ct.own.all (Own.row v' E sz l2) (List.mem_of_getElem? (i:=k) (by rw[List.getElem?_set_self hlen.1]))
  have h1:v'.oneCell'=true:=by
   obtain⟨_,⟨_,rfl|⟨q,rfl,_⟩⟩|⟨b,cap,cur,rfl,_⟩⟩:=wg.1<;>rfl
  have lD:=ct.nj (d:=d) (v:=v') (x:=AV.mQ) ct.step (Im.le_refl _) ct.own hd h1
  refine kk I _ w' (lD.pass (oV (a':=a.put (some d) v') (f:=λa=>Own.row (a.tmps.getD d undef) E sz l2) ?_))
  have:(a.put (some d) v').tmps.getD d undef=v':=by
   have jH:d<c.n:=by simpa using hd
   have cK:=U.size
   simp[Act.put,cK,jH]
  rw[this]) r
end
section
variable {Γ:Env} {g g' b:Bool} {t:Nat} {x:AV} {o:Operand}
theorem At.tt (h:Env.get t Γ=some x:=by rfl):At Γ g (.tmp t) x:=.t h
theorem At.ag (h:Env.get t Γ=some (AV.cond g' x):=by rfl) (hg:g=true->g'=true:=by intro hg;first|exact hg|exact(Bool.and_eq_true_iff.1 hg).1|exact(Bool.and_eq_true_iff.1 (Bool.and_eq_true_iff.1 hg).1).1):At Γ g (.tmp t) x:=.g h hg
theorem At.r (h:At Γ g o x:=by first|exact .t rfl|exact .nil (.t rfl)):At Γ g o x:=h
theorem At.pc (h:At Γ g o x:=by first|exact .t rfl|exact .gc rfl (λhg=>hg)|exact .gc rfl (λhg=>(Bool.and_eq_true_iff.1 hg).1)):At Γ g o x:=h
end
section
variable {P:Program} {c:Ctx} {I:Im} {H:List Own} {Γ:Env} {a:Act} {w:World} {Q:Exit->Act->World->Prop} {ops:Array Oper} {rest os:List Oper} {g G b:Bool} {x:AV} {d t j:Nat} {op:Op} {ty:TypeId} {p:String} {af:Array Edge} {gd:Option (Nat×Bool)} {y:Operand} {v:Value}
theorem jG.T {o:Oper} (h:o.guard=some (j,true):=by rfl) (hj:(ops[j]?).bind (·.dst)=some t:=by rfl) (ht:Env.get t Γ=some (.bool b):=by rfl):jG ops Γ o b:=Kn h hj ht
theorem jG.F {o:Oper} (h:o.guard=some (j,false):=by rfl) (hj:(ops[j]?).bind (·.dst)=some t:=by rfl) (ht:Env.get t Γ=some (.bool b):=by rfl):jG ops Γ o (!b):=S0 h hj ht
theorem jG.T2 {o:Oper} (h:o.guard=some (j,true):=by rfl) (hj:(ops[j]?).bind (·.dst)=some t:=by rfl) (ht:Env.get t Γ=some (.cond g (.bool b)):=by rfl):jG ops Γ o (g&&b):=S1 h hj ht
theorem jG.F2 {o:Oper} (h:o.guard=some (j,false):=by rfl) (hj:(ops[j]?).bind (·.dst)=some t:=by rfl) (ht:Env.get t Γ=some (.cond g (.bool b)):=by rfl):jG ops Γ o (g&&!b):=S2 h hj ht
theorem St.o (U:St c I H Γ a w) (ok:Ok P H Γ true ⟨some d,op,ty,p,af,none⟩ x) (k:∀{I' a' w'},St c I' H ((d,x)::Γ) a' w'->wpList P ops Q rest a' w') (hd:Nat.blt d c.n=true:=by rfl):wpList P ops Q (⟨some d,op,ty,p,af,none⟩::rest) a w:=U.op rfl rfl hd ok λ_ _ _ h=>k h
theorem St.m (U:St c I H Γ a w) (k:∀{I' a' w'},St c I' H ((d,x)::Γ) a' w'->wpList P ops Q rest a' w') (hy:Env.get t Γ=some x:=by rfl) (hd:Nat.blt d c.n=true:=by rfl):wpList P ops Q (⟨some d,.move (.tmp t),ty,p,af,none⟩::rest) a w:=U.op rfl rfl hd (zs (.t hy)) λ_ _ _ h=>k h
theorem St.s (U:St c I H Γ a w) (k:∀{I' a' w'},St c I' H ((d,x)::Γ) a' w'->wpList P ops Q rest a' w') (hy:Env.get t Γ=some x:=by rfl) (hd:Nat.blt d c.n=true:=by rfl):wpList P ops Q (⟨some d,.assign (.tmp t),ty,p,af,none⟩::rest) a w:=U.op rfl rfl hd (ux (.t hy)) λ_ _ _ h=>k h
theorem St.sc (U:St c I H Γ a w) (k:∀{I' a' w'},St c I' H ((d,.val v)::Γ) a' w'->wpList P ops Q rest a' w') (hd:Nat.blt d c.n=true:=by rfl):wpList P ops Q (⟨some d,.assign (.const v),ty,p,af,none⟩::rest) a w:=U.op rfl rfl hd (ux .c) λ_ _ _ h=>k h
theorem St.q (U:St c I H Γ a w) (hg:jG ops Γ ⟨some d,op,ty,p,af,gd⟩ G) (ok:Ok P H Γ G ⟨some d,op,ty,p,af,gd⟩ x) (k:∀{I' a' w'},St c I' H ((d,.cond G x)::Γ) a' w'->wpList P ops Q rest a' w') (hd:Nat.blt d c.n=true:=by rfl):wpList P ops Q (⟨some d,op,ty,p,af,gd⟩::rest) a w:=U.BK hg rfl hd ok λ_ _ _ h=>k h
theorem j5.o {o:Oper} (ok:Ok P H (Γ.only (o.looksAt ops)) true o x) (k:j5 P c H ops Q ((o.dst.getD 0,x)::Γ) os) (hg:o.guard=none:=by rfl):j5 P c H ops Q Γ (o::os):=.cons (.of hg ok) k
theorem j5.q {o:Oper} (hg:jG ops (Γ.only (o.looksAt ops)) o G) (ok:Ok P H (Γ.only (o.looksAt ops)) G o x) (k:j5 P c H ops Q ((o.dst.getD 0,AV.cond G x)::Γ) os):j5 P c H ops Q Γ (o::os):=.cons (.BL hg ok) k
theorem St.dk {id:Nat} {l:List Oper} (U:St c I H Γ a w) (run:j5 P c H l.toArray Q Γ l) (hm:P.follows .mixedOrders=true:=by kernel_rfl) (gf:n8 l []=true:=by kernel_rfl) (hd:(l.all λo=>Nat.blt (o.dst.getD 0) c.n)=true:=by rfl):(Code.region id l.toArray true).wp P Q a w:=U.TO hm gf hd run
end
theorem B:(∀(p:Prop) [Decidable p],(decide p=true)=p)/\(∀(p:Prop) [Decidable p],(decide p=false)↔¬p)/\(∀b:Bool,((!b)=true)=(b=false))/\(∀b:Bool,((!b)=false)=(b=true))/\(∀a b:Bool,((a&&b)=true)=(a=true/\b=true))/\
 (∀a b:Bool,((a||b)=true)=(a=true\/b=true))/\(∀a b:Bool,((a&&b)=false)↔(a=false\/b=false))/\(∀a b:Bool,((a||b)=false)↔(a=false/\b=false))/\(∀(α:Type) [BEq α] [LawfulBEq α] (a b:α),(a==b)=true↔a=b)/\(∀(α:Type) [BEq α] [LawfulBEq α] (a b:α),(a !=b)=true↔¬a=b)/\
 (∀(α:Type) [BEq α] [LawfulBEq α] (a b:α),(a !=b)=false↔a=b)/\(∀(α:Type) [BEq α] [LawfulBEq α] (a b:α),(a==b)=false↔¬a=b)/\
 (∀a b:Int,(¬a<b)↔b<=a)/\(∀a b:Int,(¬a<=b)↔b<a)/\(∀n m:Nat,((n:Int)<m)↔n<m)/\(∀n m:Nat,((n:Int)<=m)↔n<=m):=
 ⟨λ_ _=>decide_eq_true_eq,λ_ _=>decide_eq_false_iff_not,λb=>by simp,λb=>by simp,Bool.and_eq_true,Bool.or_eq_true,λ_ _=>Bool.and_eq_false_iff,λ_ _=>Bool.or_eq_false_iff,λ_ _ _ _ _=>beq_iff_eq,λ_ _ _ _ _=>bne_iff_ne,λ_ _ _ _ _=>bne_eq_false_iff_eq,λ_ _ _ _ _=>beq_eq_false_iff_ne,λ_ _=>Int.not_lt,λ_ _=>Int.not_le,λ_ _=>Int.ofNat_lt,λ_ _=>Int.ofNat_le⟩
def Own.raw (b:Nat) (T:TypeId) (L:List (Option AV)):Own:=
 ⟨some b,λI w=>∃cur,w.heap[b]?=some (.cells cur T (0,0))/\cur.size=L.length/\∀(i:Nat) (x:AV),L[i]?=some (some x)->∃v,cur[i]?=some v/\x.h I v/\v.oneCell'=true,
  λI I' w w' hl hb ⟨cur,e,U,h⟩=>⟨cur,(hb b rfl).trans e,U,λi x hx=>let⟨v,h1,h2,h3⟩:=h i x hx;⟨v,h1,x.up _ _ _ hl h2,h3⟩⟩⟩
theorem bJ.Fx {I:Im} {l:List AV} {cs:List Value} (h:bJ I l cs) {i:Nat} {x:AV} (hx:(l.map some)[i]?=some (some x)):∃c,cs[i]?=some c/\x.h I c/\c.oneCell'=true:=by
 rw[List.getElem?_map] at hx
 cases hl:l[i]? with
 |none=>rw[hl] at hx;cases hx
 |some y=>
  rw[hl] at hx
  cases hx
  exact h.get hl
theorem Cb {I:Im}:∀{xs:List AV} {cs:List Value},cs.length=xs.length->(∀(i:Nat) (x:AV),xs[i]?=some x->∃v,cs[i]?=some v/\x.h I v/\v.oneCell'=true)->bJ I xs cs
 |[],[],_,_=>trivial
 |[],_::_,h,_=>by simp at h
 |_::_,[],h,_=>by simp at h
 |x::xs,c::cs,h,hh=>by
  obtain⟨v,h1,h2,h3⟩:=hh 0 x rfl
  cases h1
  exact⟨⟨h2,h3⟩,Cb (by simpa using h) λi y hy=>by simpa using hh (i+1) y (by simpa using hy)⟩
def over {α:Type} (L:List α) (o:Nat) (X:List α):List α:=L.take o++X++L.drop (o+X.length)
theorem l4 {α:Type} {L X:List α} {o:Nat} (h:o+X.length<=L.length):(over L o X).length=L.length:=by simp[over];omega
theorem Lf {α:Type} {L X:List α} {o i:Nat} (h:o+X.length<=L.length):(over L o X)[i]?=if i<o then L[i]? else if i<o+X.length then X[i-o]? else L[i]?:=by
 unfold over
 have h1:(L.take o).length=o:=by simp;omega
 by_cases a:i<o
 ·rw[if_pos a,List.append_assoc,List.getElem?_append_left (by omega),List.getElem?_take,if_pos a]
 ·rw[if_neg a]
  by_cases b:i<o+X.length
  ·rw[if_pos b,List.getElem?_append_left (by simp;omega),List.getElem?_append_right (by omega),h1]
  ·rw[if_neg b,List.getElem?_append_right (by simp;omega),List.getElem?_drop]
   congr 1
   simp;omega
section
variable {P:Program} {c:Ctx} {I:Im} {H:List Own} {Γ:Env} {a:Act} {w:World} {Q:Exit->Act->World->Prop} {ops:Array Oper} {rest:List Oper}
variable {d:Nat} {y z z':Operand} {ty T T' E E':TypeId} {p:String} {af:Array Edge} {g:Bool} {gd:Option (Nat×Bool)} {n m:Nat} {zv:Value}
theorem Ub {b:Nat} {L:List (Option AV)} (h:(Own.raw b T L).ok I w) {i:Nat} {x:AV} (hx:L[i]?=some (some x)):∃v,w.cell? ⟨b,i,none⟩=some v/\x.h I v/\v.oneCell'=true:=by
 obtain⟨cur,hb,cK,hc⟩:=h
 obtain⟨v,h1,h2,h3⟩:=hc i x hx
 exact⟨v,by simp[World.cell?,hb,h1],h2,h3⟩
theorem Fy {b o:Nat} {L:List (Option AV)} {xs:List AV} (h:(Own.raw b T L).ok I w) (hx:(L.drop o).take xs.length=xs.map some):∃cs:List Value,bJ I xs cs/\∀j v,cs[j]?=some v->w.cell? ((⟨b,o,none⟩:Addr).add j)=some v:=by
 have key:∀j x,xs[j]?=some x->∃v,w.cell? ⟨b,o+j,none⟩=some v/\x.h I v/\v.oneCell'=true:=λj x hj=>by
  have lY:j<xs.length:=(List.getElem?_eq_some_iff.1 hj).1
  have e:(xs.map some)[j]?=some (some x):=by rw[List.getElem?_map,hj];rfl
  rw[<-hx,List.getElem?_take,if_pos lY,List.getElem?_drop] at e
  exact Ub h e
 have ch:∀j:Nat,∃v,j<xs.length->w.cell? ⟨b,o+j,none⟩=some v/\∀x,xs[j]?=some x->x.h I v/\v.oneCell'=true:=λj=>by
  by_cases hj:j<xs.length
  ·obtain⟨v,h1,h2,h3⟩:=key j xs[j] (by simp[hj])
   exact⟨v,λ_=>⟨h1,λx hx=>by rw[List.getElem?_eq_getElem hj] at hx;cases hx;exact⟨h2,h3⟩⟩⟩
  ·exact⟨undef,λh=>absurd h hj⟩
 let f:Nat->Value:=λj=>(ch j).choose
 have hf:∀j,j<xs.length->w.cell? ⟨b,o+j,none⟩=some (f j)/\∀x,xs[j]?=some x->x.h I (f j)/\(f j).oneCell'=true:=λj=>(ch j).choose_spec
 refine⟨(List.range xs.length).map f,Cb (by simp) λi x hi=>?_,λj v hj=>?_⟩
 ·have kU:i<xs.length:=(List.getElem?_eq_some_iff.1 hi).1
  exact⟨f i,by simp[kU],(hf i kU).2 x hi⟩
 ·rw[add_plain]
  have lY:j<xs.length:=by have:=(List.getElem?_eq_some_iff.1 hj).1;simpa using this
  simp[lY] at hj
  rw[<-hj];exact(hf j lY).1
theorem St.tn {v:Value} {sz:Nat} {l:List (List AV)} (k:Nat) (U:St c I H Γ a w) (hk:H[k]?=some (Own.row v E sz l)) (bj:l≠[]):
 ∃b cap,v=.slice (some ⟨b,0,none⟩) l.length cap/\l.length<=cap/\cap<=maxLen/\0<cap/\St c I (H.set k (Own.raw b E (l.flatten.map some++List.replicate ((cap-l.length)*sz) none))) Γ a w:=by
 obtain⟨⟨cK,⟨rfl,_⟩|⟨b,cap,cur,rfl,h0,hb,h3,h4,h5,hl⟩⟩,h2⟩:=U.own.all _ (List.mem_of_getElem? hk)
 ·exact absurd rfl bj
 ·have kT:=gI cK
  refine⟨b,cap,rfl,h3,h4,h0,U.step,?_,U.env,U.size,U.defers⟩
  have ah:nY (.slice (some ⟨b,0,none⟩) l.length cap)=some b:=zn h0
  refine⟨λo ho=>?_,s9 U.own.nodup λb' e=>.inl ⟨_,hk,by rw[xG,ah];exact e⟩⟩
  rcases List.mem_or_eq_of_mem_set ho with ho|rfl
  ·exact U.own.all o ho
  ·refine⟨⟨cur,hb,?_,λi x hx=>?_⟩,λb' e=>h2 b' (by rw[xG,ah];exact e)⟩
   ·rw[List.length_append,List.length_map,List.length_replicate,kT,h5,<-Nat.add_mul]
    congr 1;omega
   ·by_cases hi:i<l.flatten.length
    ·rw[List.getElem?_append_left (by rw[List.length_map];exact hi)] at hx
     obtain⟨u,hu,vI,Fz⟩:=hl.Fx hx
     refine⟨u,?_,vI,Fz⟩
     rw[List.getElem?_take] at hu
     split at hu
     ·simpa using hu
     ·cases hu
    ·rw[List.getElem?_append_right (by rw[List.length_map];omega),List.getElem?_replicate] at hx
     split at hx<;>cases hx
theorem St.rH {b cap sz:Nat} {L:List (Option AV)} {l:List (List AV)} (k:Nat) (U:St c I H Γ a w) (hk:H[k]?=some (Own.raw b E L)) (hL:L.length=cap*sz) (cK:∀r∈l,r.length=sz) (hl:l.length<=cap) (h0:0<cap) (hm:cap<=maxLen)
 (he:L.take (l.length*sz)=l.flatten.map some):St c I (H.set k (Own.row (.slice (some ⟨b,0,none⟩) l.length cap) E sz l)) Γ a w:=by
 obtain⟨⟨cur,hb,kt,hc⟩,h2⟩:=U.own.all _ (List.mem_of_getElem? hk)
 have kT:=gI cK
 have ah:nY (.slice (some ⟨b,0,none⟩) l.length cap)=some b:=zn h0
 refine⟨U.step,⟨λo ho=>?_,s9 U.own.nodup λb' e=>.inl ⟨_,hk,by rw[xG,ah] at e;exact e⟩⟩,U.env,U.size,U.defers⟩
 rcases List.mem_or_eq_of_mem_set ho with ho|rfl
 ·exact U.own.all o ho
 ·refine⟨⟨cK,.inr ⟨b,cap,cur,rfl,h0,hb,hl,hm,by omega,Cb ?_ λi x hx=>?_⟩⟩,λb' e=>h2 b' (by rw[xG,ah] at e;exact e)⟩
  ·have h6:l.length*sz<=cap*sz:=Nat.mul_le_mul_right _ hl
   rw[kT];simp;omega
  ·have kU:i<l.length*sz:=by rw[<-kT];exact(List.getElem?_eq_some_iff.1 hx).1
   have e:(l.flatten.map some)[i]?=some (some x):=by rw[List.getElem?_map,hx];rfl
   rw[<-he,List.getElem?_take,if_pos kU] at e
   obtain⟨u,h1,h3,h4⟩:=hc i x e
   exact⟨u,by rw[List.getElem?_take,if_pos kU];simpa using h1,h3,h4⟩
theorem FA {q:Option Addr} {n cap:Nat} {t:Int} {sz:Nat} {ag:Bool} (hT:P.underlying T=some (.slice E)) (hE:Ty P E ag sz m zv) (h:At Γ g y (.val (.slice q n cap))) (h1:At Γ g z (.int t)) (rI:0<=t/\t<=n) (nk:n<=cap):
 Ok P H Γ g ⟨some d,.slice T y (some z) none none,ty,p,af,gd⟩ .any:=
 gB λ_ I a w he _ _ hg=>by
  have e:a.eval y=_:=h I a he hg
  have e1:a.eval z=_:=h1 I a he hg
  have U:(sizeOf E).run P w=.ok sz w:=hE.size
  refine⟨sliced q t.toNat n cap sz,?_,trivial⟩
  simp only[execOp,Option.map_some,Option.map_none,e,e1,Instr.sliceAt,Sem.run_bind,run_underlying hT,Result.andThen_ok]
  simp[Instr.slice,run_underlying hT,Instr.sliceBounds,run_sliceBound,rI.1,rI.2,U,sliced]
theorem ky {b o n cap lo sz:Nat} {t:Int} {ag:Bool} (hT:P.underlying T=some (.slice E)) (hE:Ty P E ag sz m zv) (h:At Γ g y (.val (.slice (some ⟨b,o,none⟩) n cap))) (h1:At Γ g z (.int t)) (ht:t=lo) (rI:lo<=n) (nk:lo<cap):
 Ok P H Γ g ⟨some d,.slice T y (some z) none none,ty,p,af,gd⟩ (.val (.slice (some ⟨b,o+lo*sz,none⟩) (n-lo) (cap-lo))):=
 gB λ_ I a w he _ _ hg=>by
  subst ht
  have e:a.eval y=_:=h I a he hg
  have e1:a.eval z=_:=h1 I a he hg
  have U:(sizeOf E).run P w=.ok sz w:=hE.size
  refine⟨_,?_,rfl⟩
  have c3:¬cap=lo:=by omega
  have c1:(lo:Int)<=(n:Int):=by omega
  simp only[execOp,Option.map_some,Option.map_none,e,e1,Instr.sliceAt,Sem.run_bind,run_underlying hT,Result.andThen_ok]
  simp[Instr.slice,run_underlying hT,Instr.sliceBounds,run_sliceBound,rI,U,sliced,c3,add_plain]
theorem rJ {b o n cap hi sz:Nat} {t:Int} {ag:Bool} (hT:P.underlying T=some (.slice E)) (hE:Ty P E ag sz m zv) (h:At Γ g y (.val (.slice (some ⟨b,o,none⟩) n cap))) (h1:At Γ g z (.int t)) (ht:t=hi) (FB:hi<=cap) (hc:0<cap):
 Ok P H Γ g ⟨some d,.slice T y none (some z) none,ty,p,af,gd⟩ (.val (.slice (some ⟨b,o,none⟩) hi cap)):=
 gB λ_ I a w he _ _ hg=>by
  subst ht
  have e:a.eval y=_:=h I a he hg
  have e1:a.eval z=_:=h1 I a he hg
  have U:(sizeOf E).run P w=.ok sz w:=hE.size
  refine⟨_,?_,rfl⟩
  have c3:¬cap=0:=by omega
  have c1:(hi:Int)<=(cap:Int):=by omega
  simp only[execOp,Option.map_some,Option.map_none,e,e1,Instr.sliceAt,Sem.run_bind,run_underlying hT,Result.andThen_ok]
  simp[Instr.slice,run_underlying hT,Instr.sliceBounds,run_sliceBound,FB,U,sliced,c3,add_plain]
theorem z1 {q:Option Addr} {n cap:Nat} (hT:P.underlying T=some (.slice E)) (h:At Γ g y (.val (.slice q n cap))):
 Ok P H Γ g ⟨some d,.call ⟨.builtin .cap,#[y],#[T]⟩,ty,p,af,gd⟩ (.int cap):=
 gB λ_ I a w he _ _ hg=>by
  have e:a.eval y=_:=h I a he hg
  refine⟨_,?_,rfl⟩
  simp[execOp,resolve,invoke,builtin,e,Builtin.cap_,run_underlying hT,goInt]
theorem Lg {T1 T2:TypeId} {ag:Bool} {sz b o dn dc sn sc:Nat} {ad:Addr} {cur:Array Value} {cs:List Value} (hU:P.underlying T1=some (.slice E)) (hE:Ty P E ag sz m zv) (hb:w.heap[b]?=some (.cells cur T (0,0))) (hn:cs.length=min sn dn*sz)
 (Uc:∀j v,cs[j]?=some v->w.cell? (ad.add j)=some v) (iT:o+cs.length<=cur.size) (h1:∀v∈cs,v.oneCell'=true):
 (Builtin.copy_ #[T1,T2] ty #[.slice (some ⟨b,o,none⟩) dn dc,.slice (some ad) sn sc]).run P w=.ok (goInt ((min sn dn:Nat):Int)) (w.setRow b (over cur.toList o cs).toArray):=by
 have U:(sizeOf E).run P w=.ok sz w:=hE.size
 have zS:Nat.min sn dn=min sn dn:=rfl
 have hl:=run_loadCells_list (P:=P) w ad cs Uc
 rw[hn] at hl
 have bc:=run_storeCells_at P b o T cs 0 cur w hb (by simpa using iT) h1
 simp only[Nat.add_zero] at bc
 simp only[Builtin.copy_,Sem.run_bind,Sem.run_pure,List.getElem?_toArray,List.getElem?_cons_zero,List.getElem?_cons_succ,run_underlying hU,Result.andThen_ok,Builtin.lenOf,zS,U,Builtin.firstCells,hl,bc]
 simp[over]
theorem St.copied {b o:Nat} {L:List (Option AV)} {xs:List AV} {cs:List Value} {cur:Array Value} (k:Nat) (U:St c I H Γ a w) (hk:H[k]?=some (Own.raw b T L)) (hb:w.heap[b]?=some (.cells cur T (0,0))) (kt:cur.size=L.length) (ql:∀(i:Nat) (x:AV),L[i]?=some (some x)->∃v,cur[i]?=some v/\x.h I v/\v.oneCell'=true)
 (hx:bJ I xs cs) (iT:o+xs.length<=L.length):St c I (H.set k (Own.raw b T (over L o (xs.map some)))) Γ a (w.setRow b (over cur.toList o cs).toArray):=by
 obtain⟨_,h2⟩:=U.own.all _ (List.mem_of_getElem? hk)
 obtain⟨vT,ta,tb⟩:=h2 b rfl
 have hlen:=hx.length
 refine U.written (U.step.write vT ta (by simp) rfl rfl rfl λk' eY=>setRow_other w b k' _ eY) (U.own.write hk rfl (by simp) (λk' eY=>setRow_other w b k' _ λe=>eY (by rw[e];rfl)) ⟨_,setRow_heap w b cur _ T _ hb,?_,λi x hi=>?_⟩)
 ·rw[l4 (by simpa using iT)]
  have:(over cur.toList o cs).length=cur.toList.length:=l4 (by simp;omega)
  simpa using this.trans (by simpa using kt)
 ·have e1:=Lf (L:=L) (X:=xs.map some) (o:=o) (i:=i) (by simpa using iT)
  have e2:=Lf (L:=cur.toList) (X:=cs) (o:=o) (i:=i) (by simp;omega)
  have e3:(over cur.toList o cs).toArray[i]?=(over cur.toList o cs)[i]?:=by simp
  rw[e3,e2]
  rw[e1] at hi
  simp only[List.length_map] at hi
  rw[hlen]
  by_cases h3:i<o
  ·rw[if_pos h3] at hi⊢
   simpa using ql i x hi
  ·rw[if_neg h3] at hi⊢
   by_cases h4:i<o+xs.length
   ·rw[if_pos h4] at hi⊢
    exact hx.Fx hi
   ·rw[if_neg h4] at hi⊢
    simpa using ql i x hi
theorem St.xX {T1 T2:TypeId} {ag:Bool} {sz b o dn dc:Nat} {L:List (Option AV)} {l2:List (List AV)} (k:Nat) (U:St c I H Γ a w) (hU:P.underlying T1=some (.slice E)) (hE:Ty P E ag sz m zv) (hy:At Γ true y (.val (.slice (some ⟨b,o,none⟩) dn dc))) (hz:At Γ true z (.rows sz l2)) (hk:H[k]?=some (Own.raw b T L)) (bj:l2≠[])
 (hle:l2.length<=dn) (iT:o+l2.length*sz<=L.length) (hd:Nat.blt d c.n=true)
 (kk:∀{a' w'},St c I (H.set k (Own.raw b T (over L o (l2.flatten.map some)))) ((d,.int l2.length)::Γ) a' w'->wpList P ops Q rest a' w'):
 wpList P ops Q (⟨some d,.call ⟨.builtin .copy,#[y,z],#[T1,T2]⟩,ty,p,af,none⟩::rest) a w:=by
 have e1:a.eval y=_:=hy I a U.env rfl
 obtain⟨q,cap,e2,g1,g2,g3,g4,g5⟩:=hz I a U.env rfl
 obtain⟨qa,rfl,hq⟩:=g4.resolve_left bj
 obtain⟨qb,qo,qs⟩:=qa
 obtain rfl:qs=none:=hq.1
 obtain⟨cs,h1,h2,h3⟩:=hq.toArray U.step.c9
 obtain⟨⟨cur,hb,kt,ql⟩,_⟩:=U.own.all _ (List.mem_of_getElem? hk)
 have kT:=gI g3
 have bB:cs.length=l2.length*sz:=by rw[h2.length,kT]
 have hr:=Lg (P:=P) (T2:=T2) (ty:=ty) (dn:=dn) (dc:=dc) (sc:=cap) (o:=o) hU hE hb (by rw[bB,Nat.min_eq_left hle]) h3 (by omega) h2.one
 rw[Nat.min_eq_left hle] at hr
 refine jI rfl ?_
 unfold Oper.wp
 simp only[execOp,resolve,invoke,builtin,Sem.run_bind,Sem.run_pure,Result.andThen_ok,List.map_toArray,List.map_cons,List.map_nil,e1,e2,hr]
 have ct:=U.copied k hk hb kt ql h2 (by omega) (o:=o)
 exact kk (ct.nj ct.step (Im.le_refl _) ct.own hd rfl)
theorem St.xY {T1 T2:TypeId} {ag:Bool} {sz b o dn dc b2 o2 sn sc:Nat} {L L2:List (Option AV)} {xs:List AV} (k k2:Nat) (U:St c I H Γ a w) (hU:P.underlying T1=some (.slice E)) (hE:Ty P E ag sz m zv) (hy:At Γ true y (.val (.slice (some ⟨b,o,none⟩) dn dc))) (hz:At Γ true z (.val (.slice (some ⟨b2,o2,none⟩) sn sc))) (hk:H[k]?=some (Own.raw b T L)) (eD:H[k2]?=some (Own.raw b2 T' L2))
 (hx:(L2.drop o2).take xs.length=xs.map some) (n5:xs.length=min sn dn*sz) (iT:o+xs.length<=L.length) (hd:Nat.blt d c.n=true)
 (kk:∀{a' w'},St c I (H.set k (Own.raw b T (over L o (xs.map some)))) ((d,.int ((min sn dn:Nat):Int))::Γ) a' w'->wpList P ops Q rest a' w'):
 wpList P ops Q (⟨some d,.call ⟨.builtin .copy,#[y,z],#[T1,T2]⟩,ty,p,af,none⟩::rest) a w:=by
 have e1:a.eval y=_:=hy I a U.env rfl
 have e2:a.eval z=_:=hz I a U.env rfl
 obtain⟨cs,h2,h3⟩:=Fy (U.own.all _ (List.mem_of_getElem? eD)).1 hx
 obtain⟨⟨cur,hb,kt,ql⟩,_⟩:=U.own.all _ (List.mem_of_getElem? hk)
 have bB:cs.length=min sn dn*sz:=by rw[h2.length,n5]
 have hr:=Lg (P:=P) (T2:=T2) (ty:=ty) (dn:=dn) (dc:=dc) (sc:=sc) (o:=o) hU hE hb bB h3 (by omega) h2.one
 refine jI rfl ?_
 unfold Oper.wp
 simp only[execOp,resolve,invoke,builtin,Sem.run_bind,Sem.run_pure,Result.andThen_ok,List.map_toArray,List.map_cons,List.map_nil,e1,e2,hr]
 have ct:=U.copied k hk hb kt ql h2 iT (o:=o)
 exact kk (ct.nj ct.step (Im.le_refl _) ct.own hd rfl)
theorem St.FC {TN:TypeId} {ag:Bool} {sz b o i cap eR:Nat} {t:Int} {L:List (Option AV)} {xs:List AV} {k:IntKind} (j:Nat) (U:St c I H Γ a w) (hU:P.underlying T=some (.slice E)) (hN:P.underlying TN=some (.int k)) (hE:Ty P E ag sz m zv) (ga:zv.cells.size=sz) (h0:0<sz)
 (hy:At Γ true y (.val (.slice (some ⟨b,o,none⟩) i cap))) (hz:At Γ true z (.int t)) (ht:t=eR) (wi:0<eR) (hk:H[j]?=some (Own.raw b T' L)) (hx:(L.drop o).take xs.length=xs.map some) (n5:xs.length=i*sz) (hg:cap<i+eR) (hb:(i+eR)*m<=140737488355328) (uz:i+eR<=140737488355328) (hd:Nat.blt d c.n=true)
 (kc:∀{g mq a' w'},i+eR<=mq->mq<=maxLen->St c I (H++[Own.raw g E (xs.map some++List.replicate ((mq-i)*sz) none)]) ((d,.val (.slice (some ⟨g,0,none⟩) (i+eR) mq))::Γ) a' w'->wpList P ops Q rest a' w'):
 wpList P ops Q (⟨some d,.call ⟨.builtin .append,#[y,z],#[T,TN]⟩,ty,p,af,none⟩::rest) a w:=by
 subst ht
 have e1:a.eval y=_:=hy I a U.env rfl
 have e2:a.eval z=_:=hz I a U.env rfl
 obtain⟨ti,hi,td,iU,uB⟩:=hE.get
 obtain⟨cs,h2,h3⟩:=Fy (U.own.all _ (List.mem_of_getElem? hk)).1 hx
 have bB:cs.length=i*sz:=by rw[h2.length,n5]
 have hold:(Builtin.firstCells ti.size i (.slice (some ⟨b,o,none⟩) i cap)).run P w.drew=.ok cs.toArray w.drew:=by
  have:=run_loadCells_list (P:=P) w.drew ⟨b,o,none⟩ cs (λj v hj=>h3 j v hj)
  rw[bB] at this
  simpa[Builtin.firstCells,td] using this
 have hr:=Lib.run_append_grow_zeros (P:=P) w T TN ty E ti zv .i64 k hU hN hi uB (some ⟨b,o,none⟩) i cap cs hold eR wi (by omega) hg (by omega) (by
  rw[iU]
  have:eR*m<=(i+eR)*m:=Nat.mul_le_mul_right _ (by omega)
  omega) (by rw[iU];exact growslice_fits hg hb)
 refine jI rfl ?_
 unfold Oper.wp
 simp only[execOp,resolve,invoke,builtin,Sem.run_bind,Sem.run_pure,Result.andThen_ok,List.map_toArray,List.map_cons,List.map_nil,e1,e2,hr]
 have n6:=grownCap_ge w (i+eR) cap E
 have pB:=grownCap_le_maxLen w (i+eR) cap E (by simp only[maxLen];omega)
 have jH:cj c.own I w.drew H:=⟨λo ho=>⟨o.iR I I w _ (Im.le_refl I) (λ_ _=>rfl) (U.own.all o ho).1,(U.own.all o ho).2⟩,U.own.nodup⟩
 have aj:(Own.raw w.heap.size E (xs.map some++List.replicate ((grownCap w (i+eR) cap E-i)*sz) none)).ok I (w.drew.alloc (.cells (cs.toArray++Builtin.zeroCells zv.cells eR++Builtin.zeroCells zv.cells (grownCap w (i+eR) cap E-(i+eR))) E)):=by
  refine⟨_,s7 w.drew _,?_,λq x hq=>?_⟩
  ·have s1:=size_zeroCells zv.cells eR
   have s2:=size_zeroCells zv.cells (grownCap w (i+eR) cap E-(i+eR))
   rw[Array.size_append,Array.size_append,s1,s2,ga]
   simp only[List.size_toArray,List.length_append,List.length_map,List.length_replicate,bB,n5,<-Nat.add_mul]
   congr 1;omega
  ·by_cases FD:q<xs.length
   ·rw[List.getElem?_append_left (by simpa using FD)] at hq
    obtain⟨u,hu,vI,Fz⟩:=h2.Fx hq
    refine⟨u,?_,vI,Fz⟩
    have Ud:q<cs.toArray.size:=by simp;rw[h2.length];exact FD
    rw[Array.append_assoc,Array.getElem?_append_left Ud]
    simpa using hu
   ·rw[List.getElem?_append_right (by simpa using FD),List.getElem?_replicate] at hq
    split at hq<;>cases hq
 exact kc n6 pB (U.nj (U.step.trans (Step.EZ U.step.c9 _)) (Im.le_refl _) (jH.push U.room rfl U.step.c9 aj) hd rfl)
theorem Ue (tS tR e:TypeId) (ht:P.underlying tS=some (.slice e)) (size:Nat) (hz:∀w,(Go.sizeOf e).run P w=.ok size w)
 (a b:Addr) (la ca lb cb:Nat) (bj:a.block≠b.block) (tA tB:TypeId) (kA kB:Nat)
 (Uf:w.shape? a.block=some (tA,kA)) (Ug:kA≠0) (z3:w.shape? b.block=some (tB,kB)) (Uh:w.frozen? b=false) (Ui:w.frozen? {block:=b.block,off:=kB}=false):
 (Extern.SlicesOverlaps.overlaps #[tS,tS] #[tR] #[.slice (some a) la ca,.slice (some b) lb cb]).run P w=.ok (.bool false) w:=by
 have BX:(a.block !=b.block)=true:=by simpa using bj
 have Uj:(a.block==b.block)=false:=by simpa using bj
 change Sem.run P (α:=Value) (do
  let some t:=(#[tS,tS]:Array TypeId)[0]?|stuck "slices.overlaps: no parameter types"
  let .slice elem<-underlying t|stuck "slices.overlaps: slice type expected"
  let size<-sizeOf elem
  match(some a:Option Addr),(some b:Option Addr) with
  |some a,some b=>
   if la=0\/lb=0\/size=0 then pure (Value.bool false)
   else if a.block !=b.block&&(<-frozen a)&&(<-frozen b) then unsupported .addressObserved
   else do
    if a.block !=b.block then do
     noView a;noView b
     if<-mayBeOne a b then return Value.bool ((<-choose (.extern "sameAddr.stringBytes" 2))==1)
    pure (Value.bool (a.block==b.block&&a.off<b.off+lb*size&&b.off<a.off+la*size))
  |_,_=>pure (Value.bool false)) w=_
 by_cases h0:la=0\/lb=0\/size=0
 ·simp[run_underlying ht,hz,h0]
 ·cases kA with
  |zero=>exact absurd rfl Ug
  |succ kA=>
   cases Uk:w.frozen? a<;>cases Lh:w.frozen? {block:=a.block,off:=kA+1}<;>
    simp[run_underlying ht,hz,h0,BX,Uj,frozen,noView,viewAt,mayBeOne,stringish,shape,Sem.run,Uf,z3,Uh,Ui,Uk,Lh]
theorem St.overlaps {f:FuncId} {fn:Func} {ts:Array TypeId} {tR:TypeId} {ag:Bool} {sz b o n cap:Nat} {L:List (Option AV)} {l2:List (List AV)} (k:Nat) (U:St c I H Γ a w) (hf:P.funcs[f]?=some fn) (oK:(fn.name== "runtime.NumGoroutine")=false) (hb:fn.body.isNone=true) (hn:Extern.findNext fn=none) (he:Extern.find fn=some (Extern.SlicesOverlaps.overlaps #[T,T] #[tR]))
 (hU:P.underlying T=some (.slice E)) (hE:Ty P E ag sz m zv) (h0:0<sz) (hy:At Γ true y (.rows sz l2)) (bj:l2≠[]) (hz:At Γ true z (.val (.slice (some ⟨b,o,none⟩) n cap))) (hk:H[k]?=some (Own.raw b T' L)) (hd:Nat.blt d c.n=true)
 (kk:∀{a' w'},St c I H ((d,.bool false)::Γ) a' w'->wpList P ops Q rest a' w'):
 wpList P ops Q (⟨some d,.call ⟨.value (.func f),#[y,z],ts⟩,ty,p,af,none⟩::rest) a w:=by
 have e2:a.eval z=_:=hz I a U.env rfl
 obtain⟨q,oN,e1,g1,g2,g3,g4,g5⟩:=hy I a U.env rfl
 obtain⟨qa,rfl,Tl,cs,z4,Ul⟩:=g4.resolve_left bj
 obtain⟨TT,fr,Li⟩:=U.step.c9 _ _ z4
 obtain⟨⟨cur,ae,kt,ql⟩,h2⟩:=U.own.all _ (List.mem_of_getElem? hk)
 have ta:=(h2 b rfl).2.1
 have Um:qa.block≠b:=λe=>by rw[e,ta] at z4;cases z4
 have mL:cs.size≠0:=λh=>by
  have hl:=Ul.length
  have kT:=gI g3
  have:0<l2.length:=List.length_pos_iff.2 bj
  have h6:0<l2.length*sz:=Nat.mul_pos this h0
  have hle:((cs.toList.drop qa.off).take l2.flatten.length).length<=cs.toList.length:=by simp;omega
  have:cs.toList.length=0:=by simpa using h
  omega
 have j3:=Ue (P:=P) (w:=w) T tR E hU sz (λw=>hE.size) qa ⟨b,o,none⟩ l2.length oN n cap Um TT T' cs.size cur.size (by simp[World.shape?,Li]) mL (by simp[World.shape?,ae]) (by simp[World.frozen?,ae]) (by simp[World.frozen?,ae])
 refine jI rfl ?_
 unfold Oper.wp
 have hc:(execOp a.eval (⟨some d,.call ⟨.value (.func f),#[y,z],ts⟩,ty,p,af,none⟩:Oper)).run P w=.ok (.value (.bool false)) w:=by
  simp only[execOp,resolve,Act.eval]
  simp[Deferred.ofValue,invoke,Sem.run_bind,Sem.run_pure,run_callFunc_extern hf oK hb hn he,e1,e2,j3]
 rw[hc]
 exact kk (U.nj U.step (Im.le_refl _) U.own hd rfl)
end
theorem Un {P:Program} {f:FuncId} {fn:Func} {code:Code} {args:List AV} {R:Ending->World->Prop} (N:Nat) (hf:P.funcs[f]?=some fn) (hb:fn.body=some code) (hn:fn.ntmps=N) (hN:Nat.ble args.length N=true)
 {W0:World} {F:Nat->Prop} {I0 I:Im} {w:World} {vs:Array Value} {h0:List Own} (bc:fC F I0 W0 I w) (en:cj (Ctx.own ⟨W0,I0,N,F⟩) I w h0) (ha:c8 I args vs.toList)
 (h:∀a:Act,St ⟨W0,I0,N,F⟩ I h0 (mK 0 args) a w->code.wp P (bodyPost P fn R) a w):Calls P f vs w R:=by
 refine calls_of_wp hf hb ?_
 have hl:vs.size=args.length:=by simpa using ha.length
 have SX:args.length<=N:=Nat.le_of_ble_eq_true hN
 refine h _ ⟨bc,en,?_,?_,rfl⟩
 ·intro t x e
  have:=zy args vs.toList [] (List.replicate (fn.ntmps-vs.size) undef) ha t x e
  have heq:(vs++Array.replicate (fn.ntmps-vs.size) undef)=([]++vs.toList++List.replicate (fn.ntmps-vs.size) undef).toArray:=by
   apply Array.toList_inj.1;simp
  rw[heq];exact this
 ·simp[hn,hl];omega
theorem cj.only {base:Nat->Prop} {I:Im} {w:World} {H:List Own} {x:Own} {k:Nat} (h:cj base I w H) (hk:H[k]?=some x):cj base I w [x]:=
 ⟨λo ho=>by obtain rfl:o=x:=by simpa using ho
            exact h.all _ (List.mem_of_getElem? hk),by
  simp only[List.filterMap_cons,List.filterMap_nil]
  cases x.ei<;>simp⟩
def eE (h:List Own) (b:Nat):Prop:=b∈h.filterMap Own.ei
def rK {α:Type} (c:Ctx) (ok:α->Prop) (h1:α->List Own) (res:α->AV):Ending->World->Prop
 |.returned v,w'=>∃x I',ok x/\fC c.F c.I c.W I' w'/\cj c.own I' w' (h1 x)/\(res x).h I' v
 |_,_=>False
def c7 {α:Type} (P:Program) (f:FuncId) (args:List AV) (h0:List Own) (ok:α->Prop) (h1:α->List Own) (res:α->AV):Prop:=
 qf P f/\∀(I:Im) (w:World) (vs:Array Value),dV w I->cj (eE h0) I w h0->c8 I args vs.toList->Calls P f vs w (rK ⟨w,I,0,eE h0⟩ ok h1 res)
theorem cj.weaken {base Lj:Nat->Prop} {I:Im} {w:World} {H:List Own} (h:cj base I w H) (hb:∀b,base b->Lj b):cj Lj I w H:=
 ⟨λo ho=>⟨(h.all o ho).1,λb e=>⟨hb b ((h.all o ho).2 b e).1,((h.all o ho).2 b e).2⟩⟩,h.nodup⟩
theorem cj.exact {base:Nat->Prop} {I:Im} {w:World} {H:List Own} (h:cj base I w H):cj (eE H) I w H:=
 ⟨λo ho=>⟨(h.all o ho).1,λb e=>⟨List.mem_filterMap.2 ⟨o,ho,e⟩,((h.all o ho).2 b e).2⟩⟩,h.nodup⟩
theorem c7.intro {α:Type} {P:Program} {f:FuncId} {fn:Func} {code:Code} {args:List AV} {h0:List Own} {ok:α->Prop} {h1:α->List Own} {res:α->AV} (N:Nat) (hf:P.funcs[f]?=some fn) (hb:fn.body=some code) (hn:fn.ntmps=N) (hN:Nat.ble args.length N=true) (oK:(fn.name== "runtime.NumGoroutine")=false)
 (h:∀(W:World) (I:Im) (a:Act),St ⟨W,I,N,eE h0⟩ I h0 (mK 0 args) a W->code.wp P (bodyPost P fn (rK ⟨W,I,N,eE h0⟩ ok h1 res)) a W):c7 P f args h0 ok h1 res:=
 ⟨qf.of hf hb oK,λI w vs hm ho ha=>Calls.mono (Un N hf hb hn hN (fC.refl hm) (ho.weaken λb hb=>Or.inr hb) ha (h w I)) λe w' he=>he⟩
section
variable {P:Program} {c:Ctx} {I:Im} {H:List Own} {Γ:Env} {a:Act} {w:World} {Q:Exit->Act->World->Prop} {ops:Array Oper} {rest:List Oper} {d:Nat} {y z:Operand} {ty T E:TypeId} {p:String} {af:Array Edge} {m sz:Nat} {zv:Value} {ys:Array Operand} {ts:Array TypeId} {l l':List (List AV)}
theorem Cc {f:FuncId} {o:Oper} (vU:qf P f) (ho:o=⟨some d,.call ⟨.value (.func f),ys,ts⟩,ty,p,af,none⟩):(execOp a.eval o).run P w=.ok (.enter f (ys.map a.eval)) w:=by
 subst ho
 simp only[execOp,resolve,Act.eval]
 simp[Deferred.ofValue,invoke,vU _ w,Sem.run_bind,Sem.run_pure]
def hole:List Own->List Nat->List Own
 |H,[]=>H
 |H,k::ks=>hole (H.set k Own.gone) ks
def fill:List Own->List Nat->List Own->List Own
 |H,[],r=>H++r
 |H,_::_,[]=>H
 |H,k::ks,o::r=>fill (H.set k o) ks r
theorem cj.FE {base:Nat->Prop} {o:Own} {r:List Own} {k:Nat} (h:cj base I w (H++r)) (hk:H[k]?=some o):cj base I w (H.set k Own.gone++(r++[o])):=by
 obtain⟨hl,rfl⟩:=List.getElem?_eq_some_iff.1 hk
 have e1:H=H.take k++H[k]::H.drop (k+1):=by simp
 have e2:H.set k Own.gone=H.take k++Own.gone::H.drop (k+1):=by rw[List.set_eq_take_append_cons_drop,if_pos hl]
 refine⟨λx hx=>?_,?_⟩
 ·rw[e2] at hx
  simp only[List.append_assoc,List.cons_append,List.mem_append,List.mem_cons,List.not_mem_nil,or_false] at hx
  rcases hx with hx|rfl|hx|hx|rfl
  ·exact h.all x (List.mem_append_left _ (List.mem_of_mem_take hx))
  ·exact⟨trivial,λb e=>by cases e⟩
  ·exact h.all x (List.mem_append_left _ (List.mem_of_mem_drop hx))
  ·exact h.all x (List.mem_append_right _ hx)
  ·exact h.all _ (List.mem_append_left _ (List.getElem_mem _))
 ·have hn:=h.nodup
  rw[e2]
  rw[e1] at hn
  refine hn.perm ?_
  simp only[List.append_assoc,List.cons_append,List.filterMap_append,List.filterMap_cons,List.filterMap_nil]
  have:Own.gone.ei=none:=rfl
  rw[this]
  cases hb:(H[k]).ei with
  |none=>simp
  |some b=>
   simp only[]
   refine List.Perm.append_left _ ?_
   rw[<-List.append_assoc]
   exact(List.perm_append_comm (l₁:=[b])).trans (by simp)
theorem cj.FF {base:Nat->Prop}:∀{ks:List Nat} {H h0 r:List Own},cj base I w (H++r)->ks.Nodup->ks.map (λk=>H[k]?)=h0.map some->cj base I w (hole H ks++(r++h0))
 |[],H,[],r,h,_,_=>by simpa[hole] using h
 |[],_,_::_,_,_,_,e=>by simp at e
 |_::_,_,[],_,_,_,e=>by simp at e
 |k::ks,H,o::h0,r,h,hd,e=>by
  rw[List.nodup_cons] at hd
  simp only[List.map_cons,List.cons.injEq] at e
  have:=cj.FF (ks:=ks) (H:=H.set k Own.gone) (h0:=h0) (r:=r++[o]) (h.FE e.1) hd.2 (by
   rw[<-e.2]
   refine List.map_congr_left λj hj=>?_
   have bj:k≠j:=λh=>hd.1 (by rw[h];exact hj)
   rw[List.getElem?_set_ne bj])
  simpa[hole] using this
theorem cj.pick {base:Nat->Prop} {ks:List Nat} {h0:List Own} (h:cj base I w H) (eS:ks.map (λk=>H[k]?)=h0.map some) (cy:ks.Nodup):cj base I w h0:=by
 have rL:=cj.FF (r:=[]) (by simpa using h) cy eS
 rw[List.nil_append] at rL
 refine⟨λo ho=>rL.all o (List.mem_append_right _ ho),?_⟩
 have hn:=rL.nodup
 rw[List.filterMap_append,List.nodup_append] at hn
 exact hn.2.1
theorem St.de {α:Type} {fn:Func} {rs:List ResultVar} {xs:List AV} {ok:α->Prop} {h1:α->List Own} {res:α->AV} (x:α) (ks:List Nat) (U:St c I H Γ a w) (hr:fn.results=rs.toArray) (h:aX P H Γ rs xs) (hx:ok x) (eS:ks.map (λk=>H[k]?)=(h1 x).map some) (e:th xs=res x) (cy:decide ks.Nodup=true:=by decide):bodyPost P fn (rK c ok h1 res) .ret a w:=by
 obtain⟨v,e1,e2⟩:=U.zN hr h
 exact⟨U.defers,v,e1,x,I,hx,U.step,U.own.pick eS (of_decide_eq_true cy),e▸e2⟩
theorem St.nv {α:Type} {fn:Func} {rs:List ResultVar} {xs:List AV} {ok:α->Prop} {h1:α->List Own} {res:α->AV} (x:α) (ks:List Nat) (U:St c I H Γ a w) (hr:fn.results=rs.toArray) (h:aX P H Γ rs xs) (hx:ok x) (eS:ks.map (λk=>H[k]?)=(h1 x).map some) (e:th xs=res x) (cy:decide ks.Nodup=true:=by decide):bodyPost P fn (rK c ok h1 res) .normal a w:=U.de x ks hr h hx eS e cy
theorem Lk:∀{ks:List Nat} {H:List Own} {k:Nat},k∈ks->k<H.length->(hole H ks)[k]?=some Own.gone
 |[],_,_,h,_=>by simp at h
 |j::ks,H,k,h,hl=>by
  unfold hole
  by_cases hk:k∈ks
  ·exact Lk hk (by simpa using hl)
  ·obtain rfl:k=j:=(List.mem_cons.1 h).resolve_right hk
   have:∀(ks:List Nat) (H:List Own),k∉ks->(hole H ks)[k]?=H[k]?:=by
    intro ks
    induction ks with
    |nil=>intro H _;rfl
    |cons i ks ih=>
     intro H hn
     rw[List.mem_cons,not_or] at hn
     unfold hole
     rw[ih _ hn.2,List.getElem?_set_ne (λh=>hn.1 h.symm)]
   rw[this ks _ hk,List.getElem?_set_self hl]
theorem cj.filled {base:Nat->Prop}:∀{ks:List Nat} {H r:List Own},cj base I w (H++r)->ks.Nodup->(∀k∈ks,H[k]?=some Own.gone)->cj base I w (fill H ks r)
 |[],H,r,h,_,_=>by simpa[fill] using h
 |_::_,H,[],h,_,_=>by simpa[fill] using h
 |k::ks,H,o::r,h,hd,hg=>by
  rw[List.nodup_cons] at hd
  unfold fill
  have hk:=hg k (by simp)
  obtain⟨hl,he⟩:=List.getElem?_eq_some_iff.1 hk
  have e1:H=H.take k++Own.gone::H.drop (k+1):=by rw[<-he];simp
  have e2:H.set k o=H.take k++o::H.drop (k+1):=by rw[List.set_eq_take_append_cons_drop,if_pos hl]
  refine cj.filled ⟨λx hx=>?_,?_⟩ hd.2 λj hj=>?_
  ·refine h.all x ?_
   rcases List.mem_append.1 hx with hx|hx
   ·rcases List.mem_or_eq_of_mem_set hx with hx|rfl
    ·simp[hx]
    ·simp
   ·simp[hx]
  ·have hn:=h.nodup
   rw[e1] at hn
   rw[e2]
   refine hn.perm ?_
   simp only[List.append_assoc,List.cons_append,List.filterMap_append,List.filterMap_cons,List.filterMap_nil]
   have:Own.gone.ei=none:=rfl
   rw[this]
   cases hb:o.ei with
   |none=>simp
   |some b=>
    simp only[]
    refine List.Perm.append_left _ ?_
    exact List.perm_middle
  ·have bj:k≠j:=λh=>hd.1 (by rw[h];exact hj)
   rw[List.getElem?_set_ne bj];exact hg j (by simp[hj])
theorem St.z5 {α:Type} {I':Im} {w':World} {h0:List Own} {h1:α->List Own} {res:α->AV} {x:α} {v:Value} (ks:List Nat) (U:St c I H Γ a w) (eS:ks.map (λk=>H[k]?)=h0.map some) (cy:ks.Nodup)
 (bc:fC (eE h0) I w I' w') (ho:cj (Ctx.own ⟨w,I,0,eE h0⟩) I' w' (h1 x)) (hv:(res x).h I' v) (hd:Nat.blt d c.n=true):St c I' (fill (hole H ks) ks (h1 x)) ((d,res x)::Γ) (a.put (some d) v) w':=by
 have rL:=cj.FF (r:=[]) (by simpa using U.own) cy eS
 rw[List.nil_append] at rL
 have kr:∀b,eE h0 b->c.own b:=λb hb=>by
  obtain⟨o,ho,e⟩:=List.mem_filterMap.1 hb
  exact((rL.all o (List.mem_append_right _ ho)).2 b e).1
 have FG:∀o∈hole H ks,∀b,o.ei=some b->¬eE h0 b:=λo ho b e hb=>by
  have hn:=rL.nodup
  rw[List.filterMap_append,List.nodup_append] at hn
  exact hn.2.2 b (List.mem_filterMap.2 ⟨o,ho,e⟩) b hb rfl
 have en:cj c.own I' w' (hole H ks++h1 x):=by
  refine⟨λo hm=>?_,?_⟩
  ·rcases List.mem_append.1 hm with hm|hm
   ·obtain⟨q1,q2⟩:=rL.all o (List.mem_append_left _ hm)
    refine⟨o.iR I I' w w' bc.le (λb e=>bc.below.block b (q2 b e).2.2 (FG o hm b e)) q1,λb e=>?_⟩
    obtain⟨r1,r2,r3⟩:=q2 b e
    exact⟨r1,(bc.gH b r3 (FG o hm b e)).trans r2,Nat.lt_of_lt_of_le r3 bc.below.size⟩
   ·obtain⟨q1,q2⟩:=ho.all o hm
    refine⟨q1,λb e=>?_⟩
    obtain⟨r1,r2,r3⟩:=q2 b e
    exact⟨r1.elim (λh=>.inl (Nat.le_trans U.step.below.size h)) (kr b),r2,r3⟩
  ·rw[List.filterMap_append,List.nodup_append]
   have hn:=rL.nodup
   rw[List.filterMap_append,List.nodup_append] at hn
   refine⟨hn.1,ho.nodup,λb hb b' vP e=>?_⟩
   subst e
   obtain⟨o,hm,e⟩:=List.mem_filterMap.1 hb
   obtain⟨o',nZ,e'⟩:=List.mem_filterMap.1 vP
   have h3:=((rL.all o (List.mem_append_left _ hm)).2 b e).2.2
   rcases((ho.all o' nZ).2 b e').1 with h|h
   ·have h:w.heap.size<=b:=h
    omega
   ·exact FG o hm b e h
 have zK:fC c.F c.I c.W I' w':=by
  refine⟨Im.le_trans U.step.le bc.le,λb hb hf=>?_,bc.c9,⟨bc.below.os.trans U.step.below.os,bc.below.tape.trans U.step.below.tape,bc.below.output.trans U.step.below.output,Nat.le_trans U.step.below.size bc.below.size,λb hb hf=>?_⟩⟩
  ·have hn:¬eE h0 b:=λh=>by rcases kr b h with h|h;exact absurd h (by omega);exact hf h
   exact(bc.gH b (Nat.lt_of_lt_of_le hb U.step.below.size) hn).trans (U.step.gH b hb hf)
  ·have hn:¬eE h0 b:=λh=>by rcases kr b h with h|h;exact absurd h (by omega);exact hf h
   exact(bc.below.block b (Nat.lt_of_lt_of_le hb U.step.below.size) hn).trans (U.step.below.block b hb hf)
 have Uo:∀k∈ks,(hole H ks)[k]?=some Own.gone:=λk hk=>by
  have:(H[k]?)∈h0.map some:=by rw[<-eS];exact List.mem_map.2 ⟨k,hk,rfl⟩
  obtain⟨o,_,e⟩:=List.mem_map.1 this
  exact Lk hk (List.getElem?_eq_some_iff.1 e.symm).1
 exact⟨zK,cj.filled en cy Uo,(U.env.up bc.le).put (by rw[U.size];simpa using hd) hv,by simp[Act.put,U.size],U.defers⟩
theorem St.cG {α:Type} {f:FuncId} {xs:List AV} {h0:List Own} {ok:α->Prop} {h1:α->List Own} {res:α->AV} (ks:List Nat) (U:St c I H Γ a w) (hf:c7 P f xs h0 ok h1 res) (fB:∀I a,cP I a Γ->true=true->c8 I xs (ys.map a.eval).toList) (eS:ks.map (λk=>H[k]?)=h0.map some) (cy:decide ks.Nodup=true) (hd:Nat.blt d c.n=true)
 (k:∀x I' a' w',ok x->St c I' (fill (hole H ks) ks (h1 x)) ((d,res x)::Γ) a' w'->wpList P ops Q rest a' w'):wpList P ops Q (⟨some d,.call ⟨.value (.func f),ys,ts⟩,ty,p,af,none⟩::rest) a w:=by
 refine jI rfl ?_
 unfold Oper.wp
 rw[Cc hf.1 rfl,Oper.upon_enter]
 have cy:=of_decide_eq_true cy
 have en:cj (eE h0) I w h0:=(U.own.pick eS cy).exact
 refine Calls.mono (hf.2 I w _ U.step.c9 en (fB I a U.env rfl)) λe w' he=>?_
 cases e with
 |panicked _=>exact he.elim
 |outgrown=>exact he.elim
 |returned v=>
  obtain⟨x,I',hx,bc,ho,hv⟩:=he
  exact k x I' _ w' hx (U.z5 ks eS cy bc ho hv hd)
def kh (P:Program) (f:FuncId) (args:List AV) (E:TypeId) (sz:Nat) (l:List (List AV)):Prop:=c7 P f args [] (λ_:Value=>True) (λv=>[Own.row v E sz l]) AV.val
theorem kh.intro {f:FuncId} {fn:Func} {code:Code} {args:List AV} {E:TypeId} {sz:Nat} {l:List (List AV)} (N:Nat) (hf:P.funcs[f]?=some fn) (hb:fn.body=some code) (hn:fn.ntmps=N) (hN:Nat.ble args.length N=true) (oK:(fn.name== "runtime.NumGoroutine")=false)
 (h:∀(W:World) (I:Im) (a:Act),St ⟨W,I,N,eE []⟩ I [] (mK 0 args) a W->code.wp P (bodyPost P fn (rK ⟨W,I,N,eE []⟩ (λ_:Value=>True) (λv=>[Own.row v E sz l]) AV.val)) a W):kh P f args E sz l:=c7.intro N hf hb hn hN oK h
theorem Ll:eE []=lu:=by funext b;simp[eE,lu]
theorem fC.none {I I':Im} {w w':World} (h:fC (eE []) I w I' w'):Step I w I' w':=fC.all (Ll▸h)
theorem Up {I0 I:Im} {W0 w:World} {v:Value} {E:TypeId} {sz:Nat} {l:List (List AV)} (bc:fC (eE []) I0 W0 I w) (ho:cj (Ctx.own ⟨W0,I0,0,eE []⟩) I w [Own.row v E sz l]):∃I',Step I0 W0 I' w/\(AV.rows sz l).h I' v:=by
 have U:St ⟨W0,I0,0,eE []⟩ I [Own.row v E sz l] [] {tmps:=#[],defers:=[]} w:=⟨bc,ho,λt x e=>by simp[Env.get] at e,rfl,rfl⟩
 obtain⟨I',ct,hv⟩:=U.uC 0 rfl
 exact⟨I',fC.none ct.step,hv⟩
theorem kh.fn {f:FuncId} {args:List AV} {E:TypeId} {sz:Nat} {l:List (List AV)} (h:kh P f args E sz l):Fn P f args (.rows sz l):=
 ⟨h.1,λI w vs hm ha=>(h.2 I w vs hm (cj.nil _ _ _) ha).mono λe w' he=>by
   cases e with
   |panicked _=>exact he.elim
   |outgrown=>exact he.elim
   |returned v=>
    obtain⟨x,I',_,bc,ho,hx⟩:=he
    obtain rfl:v=x:=hx
    obtain⟨I2,Uq,hv⟩:=Up bc ho
    exact⟨I2,Uq,hv⟩⟩
theorem St.wj {fn:Func} {v:Value} {r:Nat} (k:Nat) (U:St c I H Γ a w) (hr:fn.results=#[.tmp r]) (h2:Env.get r Γ=some (.val v)) (hk:H[k]?=some (Own.row v E sz l)) (hl:l=l'):
 bodyPost P fn (rK c (λ_:Value=>True) (λv=>[Own.row v E sz l']) AV.val) .ret a w:=by
 subst hl
 obtain⟨v',h1,hv⟩:=U.zN (P:=P) (fn:=fn) (rs:=[.tmp r]) (xs:=[.val v]) hr (.cons (.t h2) .nil)
 obtain rfl:v'=v:=hv
 exact⟨U.defers,v',h1,v',I,trivial,U.step,U.own.only hk,rfl⟩
theorem St.oW {f:FuncId} {xs:List AV} (U:St c I H Γ a w) (hf:kh P f xs E sz l) (fB:∀I a,cP I a Γ->true=true->c8 I xs (ys.map a.eval).toList) (hd:Nat.blt d c.n=true)
 (k:∀I' v a' w',St c I' (H++[Own.row v E sz l]) ((d,.val v)::Γ) a' w'->wpList P ops Q rest a' w'):wpList P ops Q (⟨some d,.call ⟨.value (.func f),ys,ts⟩,ty,p,af,none⟩::rest) a w:=
 U.cG [] hf fB rfl (by decide) hd λv I' a' w' _ h=>k I' v a' w' h
def jK (P:Program) (f:FuncId) (args:List AV) (h0 h1:List Own) (res:AV):Prop:=c7 P f args h0 (λ_:Unit=>True) (λ_=>h1) (λ_=>res)
theorem jK.intro {f:FuncId} {fn:Func} {code:Code} {args:List AV} {h0 h1:List Own} {res:AV} (N:Nat) (hf:P.funcs[f]?=some fn) (hb:fn.body=some code) (hn:fn.ntmps=N) (hN:Nat.ble args.length N=true) (oK:(fn.name== "runtime.NumGoroutine")=false)
 (h:∀(W:World) (I:Im) (a:Act),St ⟨W,I,N,eE h0⟩ I h0 (mK 0 args) a W->code.wp P (bodyPost P fn (rK ⟨W,I,N,eE h0⟩ (λ_:Unit=>True) (λ_=>h1) (λ_=>res))) a W):jK P f args h0 h1 res:=c7.intro N hf hb hn hN oK h
theorem St.tp {fn:Func} {rs:List ResultVar} {xs:List AV} {res:AV} {h1:List Own} (U:St c I H Γ a w) (hr:fn.results=rs.toArray) (h:aX P H Γ rs xs) (hH:H=h1) (e:th xs=res):bodyPost P fn (rK c (λ_:Unit=>True) (λ_=>h1) (λ_=>res)) .ret a w:=by
 obtain⟨v,e1,e2⟩:=U.zN hr h
 exact⟨U.defers,v,e1,(),I,trivial,U.step,hH▸U.own,e▸e2⟩
theorem St.eT {f:FuncId} {xs:List AV} {h0 h1:List Own} {res:AV} (ks:List Nat) (U:St c I H Γ a w) (hf:jK P f xs h0 h1 res) (fB:∀I a,cP I a Γ->true=true->c8 I xs (ys.map a.eval).toList) (eS:ks.map (λk=>H[k]?)=h0.map some) (cy:decide ks.Nodup=true) (hd:Nat.blt d c.n=true)
 (k:∀I' a' w',St c I' (fill (hole H ks) ks h1) ((d,res)::Γ) a' w'->wpList P ops Q rest a' w'):wpList P ops Q (⟨some d,.call ⟨.value (.func f),ys,ts⟩,ty,p,af,none⟩::rest) a w:=
 U.cG ks hf fB eS cy hd λ_ I' a' w' _ h=>k I' a' w' h
def Cd {α:Type} (P:Program) (f:FuncId) (args:List AV) (ok:α->Prop) (res:α->AV):Prop:=c7 P f args [] ok (λ_=>[]) res
theorem Cd.intro {α:Type} {f:FuncId} {fn:Func} {code:Code} {args:List AV} {ok:α->Prop} {res:α->AV} (N:Nat) (hf:P.funcs[f]?=some fn) (hb:fn.body=some code) (hn:fn.ntmps=N) (hN:Nat.ble args.length N=true) (oK:(fn.name== "runtime.NumGoroutine")=false)
 (h:∀(W:World) (I:Im) (a:Act),St ⟨W,I,N,eE []⟩ I [] (mK 0 args) a W->code.wp P (bodyPost P fn (rK ⟨W,I,N,eE []⟩ ok (λ_=>[]) res)) a W):Cd P f args ok res:=c7.intro N hf hb hn hN oK h
theorem gj.oW {tail:List Oper} {M:Act->List Own} {k:Nat} {os:List Oper} {f:FuncId} {xs:List AV} (hf:kh P f xs E sz l) (fB:∀I a,cP I a (Γ.only (Oper.looksAt ops ⟨some d,.call ⟨.value (.func f),ys,ts⟩,ty,p,af,none⟩))->true=true->c8 I xs (ys.map a.eval).toList)
 (r:gj P c H ops Q tail (λa=>M a++[Own.row (a.tmps.getD d undef) E sz l]) (k+1) ((d,AV.any)::Γ) os):gj P c H ops Q tail M k Γ (⟨some d,.call ⟨.value (.func f),ys,ts⟩,ty,p,af,none⟩::os):=by
 obtain⟨rM,h1,h2⟩:=r
 refine⟨(AV.any,some (λv=>Own.row v E sz l))::rM,⟨?_,h1⟩,λI' a' w' U=>h2 I' a' w' (by simpa[made,ru] using U)⟩
 intro base I a w K Q he hm hw kk
 rw[if_pos (by simp[Region.wanted])]
 unfold Oper.wp
 rw[Cc hf.1 rfl,Oper.upon_enter]
 refine Calls.mono (hf.2 I w _ hm (cj.nil _ _ _) (fB I a he rfl)) λe w' he=>?_
 cases e with
 |panicked _=>exact he.elim
 |outgrown=>exact he.elim
 |returned v=>
  obtain⟨x,I',_,bc,ho,hx⟩:=he
  obtain rfl:v=x:=hx
  refine kk v I' w' trivial (fC.none bc) λf hf=>?_
  cases hf
  obtain⟨q1,q2⟩:=ho.all _ (List.mem_singleton.2 rfl)
  exact⟨q1,λb e=>⟨(q2 b e).1.elim id λh=>by rw[Ll] at h;exact h.elim,(q2 b e).2⟩⟩
theorem St.Ce {d:Nat} (U:St c I (H++([]++[Own.row (a.tmps.getD d undef) E sz l])) Γ a w):∃v,St c I (H++[Own.row v E sz l]) ((d,.val v)::Γ) a w:=by
 refine⟨a.tmps.getD d undef,U.step,by simpa using U.own,λt x e=>?_,U.size,U.defers⟩
 simp only[Env.get] at e
 cases n9:Nat.beq d t with
 |true=>
  rw[n9] at e;simp only[cond_true] at e;cases e
  obtain rfl:d=t:=Nat.eq_of_beq_eq_true n9
  rfl
 |false=>rw[n9] at e;exact U.env t x (by simpa using e)
theorem Lm {v:Value} (h:(Own.row v E sz l).ok I w):∃q cap,v=.slice q l.length cap/\l.length<=cap:=by
 obtain⟨_,⟨rfl,rfl|⟨q,rfl,_⟩⟩|⟨b,cap,cur,rfl,h0,hb,h3,_⟩⟩:=h
 ·exact⟨none,0,rfl,Nat.le_refl _⟩
 ·exact⟨some q,0,rfl,Nat.le_refl _⟩
 ·exact⟨_,cap,rfl,h3⟩
theorem St.eJ {v:Value} (k:Nat) (U:St c I H Γ a w) (hk:H[k]?=some (Own.row v E sz l)):(AV.val v).One:=by
 obtain⟨q,cap,e,_⟩:=Lm (U.own.all _ (List.mem_of_getElem? hk)).1
 exact jR (by rw[e];rfl)
theorem St.j7 {v:Value} (k:Nat) (U:St c I H Γ a w) (hk:H[k]?=some (Own.row v E sz l)) (hl:0<l.length):∃b cap,v=.slice (some ⟨b,0,none⟩) l.length cap:=by
 obtain⟨_,⟨rfl,_⟩|⟨b,cap,cur,e,_⟩⟩:=(U.own.all _ (List.mem_of_getElem? hk)).1
 ·simp at hl
 ·exact⟨b,cap,e⟩
theorem St.z6 {v:Value} (k:Nat) (U:St c I H Γ a w) (hk:H[k]?=some (Own.row v E sz l)):∃q cap,v=.slice q l.length cap/\l.length<=cap:=Lm (U.own.all _ (List.mem_of_getElem? hk)).1
end
section
variable {α:Type} {A B X R:List α}
theorem wk (n:Nat) (h:A.length=n):(A++B).drop n=B:=by subst h;exact List.drop_left
theorem kV (n:Nat) (h:A.length=n):(A++B).take n=A:=by subst h;exact List.take_left
theorem FH {i j:Nat} (hi:A.length=i) (hj:i+X.length=j) (hR:X.length<=R.length):over (over (A++B++R) j B) i X=A++X++B++R.drop X.length:=by
 have e1:over (A++B++R) j B=(A++B++R).take j++B++R.drop X.length:=by
  unfold over
  congr 1
  rw[List.append_assoc A B R,List.drop_append,List.drop_append]
  have h1:A.drop (j+B.length)=[]:=List.drop_eq_nil_of_le (by omega)
  have h2:B.drop (j+B.length-A.length)=[]:=List.drop_eq_nil_of_le (by omega)
  rw[h1,h2,List.nil_append,List.nil_append]
  congr 1;omega
 have hl:((A++B++R).take j).length=j:=by simp;omega
 rw[e1]
 unfold over
 have e2:((A++B++R).take j++B++R.drop X.length).take i=A:=by
  rw[List.append_assoc,List.take_append,List.take_take,Nat.min_eq_left (by omega),hl,show i-j=0 by omega,List.take_zero,List.append_nil,List.append_assoc]
  exact kV i hi
 have e3:((A++B++R).take j++B++R.drop X.length).drop (i+X.length)=B++R.drop X.length:=by
  rw[hj,List.append_assoc]
  exact wk j hl
 rw[e2,e3];simp
theorem FI {i j:Nat} (hi:A.length=i) (hj:i+X.length=j) (hR:X.length+B.length<=R.length):over (over (A++R) i X) j B=A++X++B++R.drop (X.length+B.length):=by
 have e1:over (A++R) i X=A++X++R.drop X.length:=by
  unfold over
  rw[kV i hi]
  congr 1
  rw[List.drop_append,List.drop_eq_nil_of_le (by omega),List.nil_append]
  congr 1;omega
 rw[e1]
 unfold over
 have hl:(A++X).length=j:=by simp;omega
 rw[kV j hl,List.drop_append,List.drop_eq_nil_of_le (by omega),List.nil_append,List.drop_drop]
 congr 2
 omega
end
end Go.Proofs.YtjepcfpkclegdaaGreat
