/- Part 4: rules of the proofs. -/
import Derived.Test.YtldbakcpcfdlaaaGreatA03
set_option linter.all false
namespace Go.Proofs.YtldbakcpcfdlaaaGreat
open Go Go.RowKit
structure EA where
 tmps:Array Value
 g:Nat->Own
abbrev ea (a:Act) (γ:Nat->Own):EA:=⟨a.tmps,γ⟩
structure mi where
 k:Nat
 aS:List Nat
 f:EA->Own
structure Rec where
 x:AV
 T:List Nat
 u:Option mi
def mi.fit (u:mi):Prop:=∀a a':EA,(∀d∈u.aS,a.tmps.getD d undef=a'.tmps.getD d undef/\a.g d=a'.g d)->u.f a=u.f a'
def kg (d:Option Nat) (x:AV) (Γ:Env):Env:=match d with|some d=>(d,x)::Γ|none=>Γ
def j2 (H:List (EA->Own)):Option mi->List (EA->Own)
 |none=>H
 |some u=>H.set u.k u.f
def cellAt (S:Nat->Bool) (k:Nat):Nat->List Rec->(EA->Own)->EA->Own
 |_,[],f=>f
 |i,r::rs,f=>cellAt S k (i+1) rs (match r.u with|none=>f|some u=>bif S i&&Nat.beq u.k k then u.f else f)
def gu (S:Nat->Bool) (i:Nat) (rs:List Rec):Nat->List (EA->Own)->List (EA->Own)
 |_,[]=>[]
 |k,f::fs=>cellAt S k i rs f::gu S i rs (k+1) fs
def dG (T:List Nat) (a:EA) (F:Nat->Own):Nat->List (EA->Own)->List Own
 |_,[]=>[]
 |k,f::fs=>(bif T.contains k then f a else F k)::dG T a F (k+1) fs
def jQ (a:EA) (H:List (EA->Own)):List Own:=H.map λf=>f a
def mj {S:Nat->Bool} {i:Nat} {rs:List Rec}:∀(k:Nat) (H:List (EA->Own)) (j:Nat),(gu S i rs k H)[j]?=(H[j]?).map (cellAt S (k+j) i rs)
 |_,[],j=>by simp[gu]
 |k,f::fs,0=>by simp[gu]
 |k,f::fs,j+1=>by
  simp only[gu,List.getElem?_cons_succ];rw[mj (k+1) fs j];have e:k+1+j=k+(j+1):=by omega
  rw[e]
def sY {T:List Nat} {a:EA} {F:Nat->Own}:∀(k:Nat) (H:List (EA->Own)) (j:Nat),(dG T a F k H)[j]?=(H[j]?).map (λf=>bif T.contains (k+j) then f a else F (k+j))
 |_,[],j=>by simp[dG]
 |k,f::fs,0=>by simp[dG]
 |k,f::fs,j+1=>by
  simp only[dG,List.getElem?_cons_succ];rw[sY (k+1) fs j];have e:k+1+j=k+(j+1):=by omega
  rw[e]
def zT {S:Nat->Bool} {i:Nat} {rs:List Rec}:∀(k:Nat) (H:List (EA->Own)),(gu S i rs k H).length=H.length
 |_,[]=>rfl
 |k,f::fs=>by simp[gu,zT (k+1) fs]
def xk {S S':Nat->Bool} {k:Nat}:∀(i:Nat) (rs:List Rec) (f:EA->Own),(∀(j:Nat) (r:Rec) (u:mi),rs[j]?=some r->r.u=some u->u.k=k->S (i+j)=S' (i+j))->cellAt S k i rs f=cellAt S' k i rs f
 |_,[],_,_=>rfl
 |i,r::rs,f,h=>by
  have ih:=λf=>xk (S:=S) (S':=S') (k:=k) (i+1) rs f λj r' u h1 h2 h3=>by
   have:=h (j+1) r' u (by simpa using h1) h2 h3;have e:i+1+j=i+(j+1):=by omega
   rw[e];exact this
  simp only[cellAt];rw[ih];cases hu:r.u with
  |none=>rfl
  |some u=>
   simp only[]
   cases hb:Nat.beq u.k k with
   |false=>simp
   |true=>rw[show S i=S' i from h 0 r u rfl hu (Nat.eq_of_beq_eq_true hb)]
def Du {S:Nat->Bool} {k:Nat}:∀(i:Nat) (rs:List Rec) (f:EA->Own),(∀j,i<=j->S j=false)->cellAt S k i rs f=f
 |_,[],_,_=>rfl
 |i,r::rs,f,h=>by
  simp only[cellAt];rw[Du (i+1) rs _ λj hj=>h j om];cases r.u with
  |none=>rfl
  |some u=>simp[h i (Nat.le_refl _)]
def Jt {S:Nat->Bool} {k:Nat}:∀(i:Nat) (rs:List Rec) (f:EA->Own) (j:Nat) (r:Rec) (u:mi),rs[j]?=some r->r.u=some u->u.k=k->S (i+j)=true->
 (∀(j':Nat) (r':Rec) (u':mi),rs[j']?=some r'->r'.u=some u'->u'.k=k->j<j'->S (i+j')=false)->cellAt S k i rs f=u.f
 |_,[],_,_,_,_,h,_,_,_,_=>by simp at h
 |i,r0::rs,f,0,r,u,h1,h2,h3,h4,h5=>by
  simp at h1;subst h1;simp only[cellAt,h2];have hb:Nat.beq u.k k=true:=by rw[h3];exact Nat.beq_refl k
  have RI:S i=true:=h4;rw[hb,RI];simp only[Bool.and_self,cond_true];have:=xk (S:=S) (S':=λ_=>false) (k:=k) (i+1) rs u.f λj' r' u' g1 g2 g3=>by
   have:=h5 (j'+1) r' u' (by simpa using g1) g2 g3 om;rw[show i+1+j'=i+(j'+1) from by omega];exact this
  rw[this];exact Du _ _ _ λ_ _=>rfl
 |i,r0::rs,f,j+1,r,u,h1,h2,h3,h4,h5=>by
  simp only[cellAt];exact Jt (i+1) rs _ j r u (by simpa using h1) h2 h3 (by rw[show i+1+j=i+(j+1) from by omega];exact h4) λj' r' u' g1 g2 g3 g4=>by
   have:=h5 (j'+1) r' u' (by simpa using g1) g2 g3 om;rw[show i+1+j'=i+(j'+1) from by omega];exact this
def Ju {S:Nat->Bool} {k:Nat} {a a':EA}:∀(i:Nat) (rs:List Rec) (f:EA->Own),f a=f a'->(∀(j:Nat) (r:Rec) (u:mi),rs[j]?=some r->r.u=some u->S (i+j)=true->u.f a=u.f a')->cellAt S k i rs f a=cellAt S k i rs f a'
 |_,[],_,h,_=>h
 |i,r::rs,f,h,hd=>by
  simp only[cellAt];refine Ju (i+1) rs _ ?_ λj r' u h1 h2 h3=>hd (j+1) r' u (by simpa using h1) h2 (by rw[show i+(j+1)=i+1+j from by omega];exact h3);cases hu:r.u with
  |none=>exact h
  |some u=>
   simp only[]
   cases hb:S i&&Nat.beq u.k k with
   |false=>exact h
   |true=>exact hd 0 r u rfl hu (by simp only[Bool.and_eq_true] at hb;exact hb.1)
def Jv {S:Nat->Bool} {i:Nat} {r:Rec} {rs:List Rec} {H:List (EA->Own)} (hS:S i=true):gu S (i+1) rs 0 (j2 H r.u)=gu S i (r::rs) 0 H:=by
 apply List.ext_getElem?;intro j;rw[mj,mj];cases hu:r.u with
 |none=>simp[j2,cellAt,hu]
 |some u=>
  simp only[j2,List.getElem?_set]
  by_cases hk:u.k=j
  .subst hk
   by_cases hl:u.k<H.length
   .simp[hl,cellAt,hu,hS]
   simp[hl]
  rw[if_neg hk]
  have hb:Nat.beq u.k j=false:=by
   cases hb:Nat.beq u.k j with
   |false=>rfl
   |true=>exact absurd (Nat.eq_of_beq_eq_true hb) hk
  cases H[j]? with
  |none=>rfl
  |some f=>simp[cellAt,hu,hb]
def Jw {S:Nat->Bool} {i:Nat} {rs:List Rec} {H:List (EA->Own)} (h:∀j,i<=j->S j=false):gu S i rs 0 H=H:=by
 apply List.ext_getElem?;intro j;rw[mj];cases H[j]? with
 |none=>rfl
 |some f=>simp[Du i rs f h]
def zU (P:Program) (n:Nat) (ops:Array Oper) (H H':List (EA->Own)) (T:List Nat) (Γ:Env) (o:Oper) (x:AV):Prop:=
 ∀(F:Nat->Own) (W0:World×(Nat->Prop)) (I0 I:Im) (γ:Nat->Own) (a:Act) (w:World) (Q:Exit->Act->World->Prop),St ⟨W0.1,I0,n,W0.2⟩ I (dG T (ea a γ) F 0 H) Γ a w->
  (∀γ',(∀t,o.dst≠some t->γ' t=γ t)->∀I' a' w',St ⟨W0.1,I0,n,W0.2⟩ I' (dG T (ea a' γ') F 0 H') (kg o.dst x Γ) a' w'->wpList P ops Q [] a' w')->wpList P ops Q [o] a w
def sZ (P:Program) (n:Nat) (ops:Array Oper):Env->List (EA->Own)->List Oper->List Rec->Prop
 |_,_,[],[]=>True
 |Γ,H,o::os,r::rs=>zU P n ops H (j2 H r.u) r.T (Γ.only (o.looksAt ops)) o r.x/\(∀u,r.u=some u->u.fit)/\sZ P n ops (kg o.dst r.x Γ) (j2 H r.u) os rs
 |_,_,_,_=>False
def ew:Nat->List Oper->List Rec->List l6
 |k,o::os,r::rs=>match o.dst with|some d=>(k,d,r.x)::ew (k+1) os rs|none=>ew (k+1) os rs
 |_,_,_=>[]
def Dv:∀(k:Nat) (os:List Oper) (rs:List Rec),(ew k os rs).Pairwise (λe f=>e.1<f.1)/\∀e∈ew k os rs,k<=e.1
 |k,[],_=>by simp[ew]
 |k,o::os,[]=>by simp[ew]
 |k,o::os,r::rs=>by
  have ih:=Dv (k+1) os rs;simp only[ew];split
  .refine⟨List.pairwise_cons.2 ⟨λe he=>by have:=ih.2 e he;simp;omega,ih.1⟩,λe he=>?_⟩;rcases List.mem_cons.1 he with rfl|he
   .simp
   have:=ih.2 e he;omega
  exact⟨ih.1,λe he=>by have:=ih.2 e he;omega⟩
def Jy {e:l6}:∀{k:Nat} {os:List Oper} {rs:List Rec},e∈ew k os rs->∃i o r,os[i]?=some o/\rs[i]?=some r/\e.1=k+i/\o.dst=some e.2.1/\e.2.2=r.x
 |k,[],_,h=>by simp[ew] at h
 |k,o::os,[],h=>by simp[ew] at h
 |k,o::os,r::rs,h=>by
  simp only[ew] at h;have key:e∈ew (k+1) os rs->∃i o' r',(o::os)[i]?=some o'/\(r::rs)[i]?=some r'/\e.1=k+i/\o'.dst=some e.2.1/\e.2.2=r'.x:=λh=>by
   obtain⟨i,o',r',h1,h2,h3,h4⟩:=Jy h;exact⟨i+1,o',r',by simpa using h1,by simpa using h2,by omega,h4⟩
  split at h
  .rename_i d hd;rcases List.mem_cons.1 h with rfl|h
   .exact⟨0,o,r,rfl,rfl,rfl,hd,rfl⟩
   exact key h
  exact key h
def RJ {i d:Nat} {o:Oper} {r:Rec} (hd:o.dst=some d):∀{k:Nat} {os:List Oper} {rs:List Rec},os[i]?=some o->rs[i]?=some r->(k+i,d,r.x)∈ew k os rs:=by
 induction i with
 |zero=>intro k os rs h1 h2;cases os<;>cases rs<;>simp at h1 h2;subst h1 h2;simp[ew,hd]
 |succ i ih=>
  intro k os rs h1 h2
  cases os with
  |nil=>simp at h1
  |cons o' os=>cases rs with
   |nil=>simp at h2
   |cons r' rs=>
    simp at h1 h2
    have:=ih (k:=k+1) h1 h2
    rw[show k+(i+1)=k+1+i from by omega]
    simp only[ew]
    split
    .exact List.mem_cons_of_mem _ this
    exact this
def s0 (Γ:Env):List Oper->List Rec->Env
 |o::os,r::rs=>s0 (kg o.dst r.x Γ) os rs
 |_,_=>Γ
def Jz:∀(os:List Oper) (rs:List Rec) (k:Nat) (Γ:Env),s0 Γ os rs=er (ew k os rs).reverse++Γ
 |[],_,_,_=>by simp[s0,ew,er]
 |_::_,[],_,_=>by simp[s0,ew,er]
 |o::os,r::rs,k,Γ=>by
  rw[s0,Jz os rs (k+1)];simp only[ew];cases o.dst with
  |none=>rfl
  |some d=>simp[er,kg]
def xl (H:List (EA->Own)):List Rec->List (EA->Own)
 |r::rs=>xl (j2 H r.u) rs
 |[]=>H
def JA:∀(rs:List Rec) (i:Nat) (H:List (EA->Own)),xl H rs=gu (λ_=>true) i rs 0 H
 |[],i,H=>by
  apply List.ext_getElem?;intro j;rw[mj];show H[j]?=_;cases H[j]?<;>rfl
 |r::rs,i,H=>by rw[xl,JA rs (i+1),Jv rfl]
def sZ.at {P:Program} {n:Nat} {ops:Array Oper} {Γ0:Env}:∀(os:List Oper) (rs:List Rec) (k:Nat) (H:List (EA->Own)) (done:List l6),sZ P n ops (er done++Γ0) H os rs->(∀e∈done,e.1<k)->
 os.length=rs.length/\(∀(i:Nat) (r:Rec) (u:mi),rs[i]?=some r->r.u=some u->u.fit)/\∀(i:Nat) (o:Oper) (r:Rec),os[i]?=some o->rs[i]?=some r->
  zU P n ops (gu (λj=>decide (j<k+i)) k rs 0 H) (j2 (gu (λj=>decide (j<k+i)) k rs 0 H) r.u) r.T ((er (((ew k os rs).reverse++done).filter λe=>decide (e.1<k+i))++Γ0).only (o.looksAt ops)) o r.x
 |[],[],_,_,_,_,_=>⟨rfl,λi r u h=>by simp at h,λi o r h=>by simp at h⟩
 |o::os,r::rs,k,H,done,h,hd=>by
  obtain⟨h1,hf,h2⟩:=h;have e0:kg o.dst r.x (er done++Γ0)=er (match o.dst with|some d=>(k,d,r.x)::done|none=>done)++Γ0:=by
   cases o.dst with
   |none=>rfl
   |some d=>simp[kg,er]
  rw[e0] at h2;have ih:=sZ.at os rs (k+1) (j2 H r.u) _ h2 (λe he=>by
   split at he
   .rcases List.mem_cons.1 he with rfl|he
    .simp
    have:=hd e he;omega
   have:=hd e he;omega)
  have wW:(ew k (o::os) (r::rs)).reverse++done=(ew (k+1) os rs).reverse++(match o.dst with|some d=>(k,d,r.x)::done|none=>done):=by
   simp only[ew];cases o.dst with
   |none=>rfl
   |some d=>simp
  refine⟨by simp[ih.1],λi r' u g1 g2=>?_,λi o' r' ho hr=>?_⟩
  .cases i with
   |zero=>simp at g1;subst g1;exact hf u g2
   |succ i=>exact ih.2.1 i r' u (by simpa using g1) g2
  rw[wW];cases i with
  |zero=>
   simp at ho hr;subst ho hr
   have jr:((ew (k+1) os rs).reverse++(match o.dst with|some d=>(k,d,r.x)::done|none=>done)).filter (λe=>decide (e.1<k+0))=done:=by
    rw[List.filter_append];have e1:(ew (k+1) os rs).reverse.filter (λe=>decide (e.1<k+0))=[]:=by
     rw[List.filter_eq_nil_iff];intro e he;have:=(Dv (k+1) os rs).2 e (List.mem_reverse.1 he);simp;omega
    have e2:done.filter (λe=>decide (e.1<k+0))=done:=by
     rw[List.filter_eq_self];intro e he;simpa using hd e he
    rw[e1];split
    .rw[List.filter_cons];simp only[Nat.add_zero,Nat.lt_irrefl,decide_false,Bool.false_eq_true,if_false,List.nil_append];simpa using e2
    simpa using e2
   rw[jr,Jw λj hj=>by simp;omega]
   exact h1
  |succ i=>
   have:=ih.2.2 i o' r' (by simpa using ho) (by simpa using hr)
   rw[Jv fK] at this
   rw[show k+(i+1)=k+1+i from by omega]
   exact this
 |[],_::_,_,_,_,h,_=>h.elim
 |_::_,[],_,_,_,h,_=>h.elim
abbrev Meta:=List (List Nat×Option (Nat×List Nat))
def rp:Nat->Meta->Meta
 |0,l=>l
 |n+1,l=>([],none)::rp n l
def Rec.kh (r:Rec):List Nat×Option (Nat×List Nat):=(r.T,r.u.map λu=>(u.k,u.aS))
def nM (l:List Oper) (ms:Meta):Bool:=
 let C:=iC [] l
 let before:=λ(i j:Nat)=>if j<i then(C.getD i []).contains j else(C.getD j []).contains i
 (l.zipIdx.all λ(o,i)=>(o.after.toList.all λe=>!Region.binds .any e||Nat.blt e.on i)&&
   (slotsOf l.toArray o).all λt=>l.zipIdx.all λ(o',j)=>Nat.beq i j||!(o'.dst==some t)||before i j)&&
 (ms.zipIdx.all λ(m,i)=>(m.1.all λk=>ms.zipIdx.all λ(m',j)=>Nat.beq i j||(match m'.2 with|some u=>!Nat.beq u.1 k|none=>true)||before i j)&&
   (match m.2 with|some u=>m.1.contains u.1|none=>true))&&
 (l.zipIdx.all λ(o,i)=>match o.dst with|none=>true|some d=>ms.zipIdx.all λ(m,j)=>Nat.beq i j||(match m.2 with|some u=>!u.2.contains d|none=>true)||(C.getD j []).contains i)
def Dw {i j:Nat} (h:i≠j):Nat.beq i j=false:=by
 cases hb:Nat.beq i j with
 |false=>rfl
 |true=>exact absurd (Nat.eq_of_beq_eq_true hb) h
def RL {l:List Oper} {ms:Meta} (h:nM l ms=true) {i:Nat} {o:Oper} (ho:l[i]?=some o):∀e∈o.after.toList,Region.binds .any e=true->e.on<i:=λe he hb=>by
 simp only[nM,List.all_eq_true,Bool.and_eq_true] at h;have hm:(o,i)∈l.zipIdx:=by rw[List.mem_zipIdx_iff_getElem?];exact ho
 have:=(h.1.1 _ hm).1 e he;rw[hb] at this;simpa using this
def RM {l:List Oper} {ms:Meta} (h:nM l ms=true) {i:Nat} {o:Oper} (ho:l[i]?=some o):
 ∀t∈slotsOf l.toArray o,∀j o',l[j]?=some o'->i≠j->o'.dst=some t->if j<i then j∈(iC [] l).getD i [] else i∈(iC [] l).getD j []:=λt ht j o' jH bH hd=>by
 simp only[nM,List.all_eq_true,Bool.and_eq_true] at h;have hm:(o,i)∈l.zipIdx:=by rw[List.mem_zipIdx_iff_getElem?];exact ho
 have lB:(o',j)∈l.zipIdx:=by rw[List.mem_zipIdx_iff_getElem?];exact jH
 have:=(h.1.1 _ hm).2 t ht _ lB;simp only[Dw bH,hd,Bool.false_or] at this;have h4:(!(some t==some t))=false:=by simp
 rw[h4,Bool.false_or] at this;split
 .rename_i cj;rw[if_pos cj] at this;simpa using this
 rename_i cj;rw[if_neg cj] at this;simpa using this
def RN {l:List Oper} {rs:List Rec} (h:nM l (rs.map Rec.kh)=true) {i:Nat} {r:Rec} (hr:rs[i]?=some r):
 (∀k∈r.T,∀j r' u,rs[j]?=some r'->i≠j->r'.u=some u->u.k=k->if j<i then j∈(iC [] l).getD i [] else i∈(iC [] l).getD j [])/\∀u,r.u=some u->u.k∈r.T:=by
 simp only[nM,List.all_eq_true,Bool.and_eq_true] at h;have hm:(r.kh,i)∈(rs.map Rec.kh).zipIdx:=by rw[List.mem_zipIdx_iff_getElem?];simp[hr]
 obtain⟨h1,h2⟩:=h.1.2 _ hm;refine⟨λk hk j r' u RO bH hu RP=>?_,λu hu=>?_⟩
 .have lB:(r'.kh,j)∈(rs.map Rec.kh).zipIdx:=by rw[List.mem_zipIdx_iff_getElem?];simp[RO]
  have:=h1 k hk _ lB;have hb:Nat.beq u.k k=true:=by rw[RP];exact Nat.beq_refl k
  simp only[Dw bH,Rec.kh,hu,Option.map_some,hb,Bool.not_true,Bool.false_or] at this;split
  .rename_i cj;rw[if_pos cj] at this;simpa using this
  rename_i cj;rw[if_neg cj] at this;simpa using this
 simp only[Rec.kh,hu,Option.map_some] at h2;simpa using h2
def RQ {l:List Oper} {rs:List Rec} (h:nM l (rs.map Rec.kh)=true) {i d:Nat} {o:Oper} (ho:l[i]?=some o) (hd:o.dst=some d) {j:Nat} {r:Rec} {u:mi} (hr:rs[j]?=some r) (hu:r.u=some u) (bH:i≠j) (zV:d∈u.aS):
 i∈(iC [] l).getD j []:=by
 simp only[nM,List.all_eq_true,Bool.and_eq_true] at h;have hm:(o,i)∈l.zipIdx:=by rw[List.mem_zipIdx_iff_getElem?];exact ho
 have:=h.2 _ hm;simp only[hd,List.all_eq_true] at this;have lB:(r.kh,j)∈(rs.map Rec.kh).zipIdx:=by rw[List.mem_zipIdx_iff_getElem?];simp[hr]
 have:=this _ lB;simp only[Dw bH,Rec.kh,hu,Option.map_some,Bool.false_or,Bool.or_eq_true,Bool.not_eq_true'] at this;rcases this with h|h
 .have:u.aS.contains d=true:=by simpa using zV
  rw[this] at h;cases h
 simpa using h
section
variable {P:Program} {c:Ctx} {I:Im} {H:List Own} {Γ:Env} {a:Act} {w:World} {Q:Exit->Act->World->Prop}
def RR {o:Oper} {K:Act->World->Prop} {Q':Exit->Act->World->Prop} (hq:∀e a w,e≠.normal->Q' e a w->Q e a w) (h:o.wp P a w K Q'):o.wp P a w (λa' w'=>(∃v,a'.tmps=(a.put o.dst v).tmps)/\K a' w') Q:=by
 unfold Oper.wp at h⊢;generalize (execOp a.eval o).run P w=r at h⊢;cases r with
 |ok n w'=>
  cases n with
  |enter f args=>
   refine Calls.mono h λe sG he=>?_
   cases e with
   |returned v=>exact⟨⟨v,rfl⟩,he⟩
   |panicked ch=>exact hq _ _ _ bt he
   |outgrown=>exact let⟨a,w,h⟩:=he;⟨a,w,hq _ _ _ bt h⟩
  |row row args=>exact Rows.mono h λv sG he=>⟨⟨v,rfl⟩,he⟩
  |value v=>exact⟨⟨v,rfl⟩,h⟩
  |skip=>exact⟨⟨undef,rfl⟩,h⟩
  |defer d=>exact⟨⟨undef,by cases o.dst<;>rfl⟩,h⟩
  |_=>exact h
 |halt x w'=>cases x<;>simp only[Oper.upon] at h⊢<;>first|exact h|exact hq _ _ _ bt h
def JB {a:EA} {T:List Nat} {F:Nat->Own} {Hf:List (EA->Own)} {X:List Own} (hl:X.length=Hf.length) (h:∀j f x,Hf[j]?=some f->X[j]?=some x->x=bif T.contains j then f a else F j):dG T a F 0 Hf=X:=by
 apply List.ext_getElem?;intro j;rw[sY];cases hf:Hf[j]? with
 |none=>
  have:Hf.length<=j:=by simpa using hf
  rw[List.getElem?_eq_none om];rfl
 |some f=>
  have hj:j<Hf.length:=(List.getElem?_eq_some_iff.1 hf).1
  have hx:X[j]?=some X[j]:=by simp[hl,hj]
  rw[hx]
  simp only[Option.map_some,Nat.zero_add]
  rw[<-h j f _ hf hx]
def St.RS (U:St c I H Γ a w):St ⟨c.W,I,c.n,c.F⟩ I H Γ a w:=
 ⟨⟨Im.le_refl I,λ_ _ _=>rfl,U.step.cX,U.step.below⟩,U.own,U.env,U.size,U.defers⟩
def xm (pre tail:List Oper) (ms:Meta):Bool:=
 nM (pre++tail) (ms++tail.map λ_=>([],none))&&(List.range tail.length).all λi=>(List.range (pre.length+i)).all λj=>((iC [] (pre++tail)).getD (pre.length+i) []).contains j
def zW {α:Type} {x y:List α} {i:Nat} {v:α} (h:x[i]?=some v):(x++y)[i]?=some v:=by
 rw[List.getElem?_append_left (List.getElem?_eq_some_iff.1 h).1];exact h
def RT {pre tail:List Oper} {rs:List Rec} {H0:List Own} (Dx:xm pre tail (rs.map Rec.kh)=true) (hlen:pre.length=rs.length) (mZ:(pre.all λo=>match o.dst with|some d=>Nat.blt d c.n|none=>true)=true)
 (jF:∀(i:Nat) (r:Rec) (u:mi),rs[i]?=some r->r.u=some u->u.fit)
 (run:∀(i:Nat) (o:Oper) (r:Rec),pre[i]?=some o->rs[i]?=some r->zU P c.n (pre++tail).toArray (gu (λj=>decide (j<i)) 0 rs 0 (H0.map λo _=>o)) (j2 (gu (λj=>decide (j<i)) 0 rs 0 (H0.map λo _=>o)) r.u) r.T ((er ((ew 0 pre rs).reverse.filter λe=>decide (e.1<i))++Γ).only (o.looksAt (pre++tail).toArray)) o r.x)
 (k:∀γ I' a' w',St c I' (jQ (ea a' γ) (gu (λ_=>true) 0 rs 0 (H0.map λo _=>o))) (er (ew 0 pre rs).reverse++Γ) a' w'->wpList P (pre++tail).toArray Q tail a' w'):
 ∀(fuel:Nat) (listed:Array Bool) (γ:Nat->Own) (I:Im) (a:Act) (w:World),listed.size=(pre++tail).length->((List.range (pre++tail).length).filter λi=>!listed.getD i false).length<=fuel->
  (∀i,i<(pre++tail).length->listed.getD i false=true->i<pre.length)->
  (∀(i:Nat) (o:Oper),(pre++tail)[i]?=some o->listed.getD i false=true->∀e∈o.after.toList,Region.binds .any e=true->listed.getD e.on false=true)->
  St c I (jQ (ea a γ) (gu (λi=>listed.getD i false) 0 rs 0 (H0.map λo _=>o))) (er ((ew 0 pre rs).reverse.filter λe=>listed.getD e.1 false)++Γ) a w->wpAny P .any (pre++tail).toArray Q fuel listed a w:=by
 simp only[xm,Bool.and_eq_true,List.all_eq_true] at Dx;have ff:nM (pre++tail) ((rs++tail.map λ_=>(⟨AV.any,[],none⟩:Rec)).map Rec.kh)=true:=by
  rw[List.map_append,List.map_map];exact Dx.1
 have hT:∀{i j:Nat},pre.length<=i->i<(pre++tail).length->j<i->j∈(iC [] (pre++tail)).getD i []:=λ{i j} hi iu hj=>by
  have:=Dx.2 (i-pre.length) (by simp at iu⊢;omega) j fK;rw[show pre.length+(i-pre.length)=i from by omega] at this;simpa using this
 have hE:∀{i:Nat} {o:Oper},(pre++tail)[i]?=some o->∀e∈o.after.toList,Region.binds .any e=true->e.on<i:=λho=>RL ff ho;have hL:(ew 0 pre rs).reverse.Pairwise (λe f=>f.1<e.1):=by
  rw[List.pairwise_reverse];exact(Dv 0 pre rs).1
 have pj:∀e∈(ew 0 pre rs).reverse,∃o',pre[e.1]?=some o'/\o'.dst=some e.2.1:=λe he=>by
  obtain⟨j,o',r',g1,_,g3,g4,_⟩:=Jy (List.mem_reverse.1 he);exact⟨o',by rw[g3,Nat.zero_add];exact g1,g4⟩
 have JC:∀(listed:Array Bool) (γ:Nat->Own) (I:Im) (a:Act) (w:World),(∀i,i<pre.length->listed.getD i false=true)->
  St c I (jQ (ea a γ) (gu (λi=>listed.getD i false) 0 rs 0 (H0.map λo _=>o))) (er ((ew 0 pre rs).reverse.filter λe=>listed.getD e.1 false)++Γ) a w->wpList P (pre++tail).toArray Q tail a w:=λlisted γ I a w aU U=>by
  refine k γ I a w ?_;have e1:(ew 0 pre rs).reverse.filter (λe=>listed.getD e.1 false)=(ew 0 pre rs).reverse:=by
   rw[List.filter_eq_self];intro e he;obtain⟨o',h1,_⟩:=pj e he;exact aU e.1 (List.getElem?_eq_some_iff.1 h1).1
  have e2:gu (λi=>listed.getD i false) 0 rs 0 (H0.map λo _=>o)=gu (λ_=>true) 0 rs 0 (H0.map λo _=>o):=by
   apply List.ext_getElem?;intro j;rw[mj,mj];cases(H0.map λ(o:Own) (_:EA)=>o)[j]? with
   |none=>rfl
   |some f=>
    simp only[Option.map_some]
    rw[xk (S:=λi=>listed.getD i false) (S':=λ_=>true) 0 rs f λj r u h1 _ _=>by
     rw[Nat.zero_add];exact aU j (by rw[hlen];exact(List.getElem?_eq_some_iff.1 h1).1)]
  rw[e1,e2] at U;exact U
 intro fuel;induction fuel with
 |zero=>
  intro listed γ I a w cF hf mf aR U
  have h0:∀i,i<(pre++tail).length->listed.getD i false=true:=λi hi=>by
   have:(List.range (pre++tail).length).filter (λi=>!listed.getD i false)=[]:=List.eq_nil_of_length_eq_zero om;rw[List.filter_eq_nil_iff] at this;simpa using this i (by simpa using hi)
  have zP:tail=[]:=by
   rcases tail with _|⟨t,ts⟩
   .rfl
   have:=mf pre.length bt (h0 pre.length bt);omega
  have hw:=JC listed γ I a w (λi hi=>h0 i fK) U
  exact zO hE hT 0 (pre++tail).length listed 0 a w om bt om om cF (λi hi=>⟨λ_=>hi,λ_=>h0 i hi⟩) (by subst zP;simpa using hw)
 |succ fuel ih=>
  intro listed γ I a w cF hf mf aR U
  by_cases aU:∀i,i<pre.length->listed.getD i false=true
  .refine zO hE hT _ pre.length listed (fuel+1) a w rfl om bt (Jk hf mf aU) cF (λi hi=>⟨mf i hi,aU i⟩) ?_
   rw[List.drop_left]
   exact JC listed γ I a w aU U
  have xg:∃i0,i0<pre.length/\listed.getD i0 false=false:=by
   refine Classical.byContradiction λhn=>aU λi hi=>?_;cases hb:listed.getD i false with
   |true=>rfl
   |false=>exact absurd ⟨i,hi,hb⟩ hn
  obtain⟨i0,xh,qh⟩:=xg
  refine⟨λhr=>?_,λi hi=>?_⟩
  .exfalso
   have:∀i,i<(pre++tail).length->listed.getD i false=true:=λi=>by
    induction i using Nat.strongRecOn with
    |_ i wT=>
     intro hi
     cases hl:listed.getD i false with
     |true=>rfl
     |false=>
      have xi:i∈Region.ready .any (pre++tail).toArray listed:=by
       refine mem_ready.2 ⟨by rw[uY om];exact hl,(pre++tail)[i],by simp[hi],λe he hb=>?_⟩;have cj:=hE (i:=i) (o:=(pre++tail)[i]) (by simp[hi]) e (by simpa using he) hb;exact wT e.on cj om
      rw[hr] at xi;cases xi
   rw[this i0 fK] at qh;cases qh
  obtain⟨h1,o,h2,h3⟩:=mem_ready.1 hi
  have cj:i<(pre++tail).length:=by have:=(Array.getElem?_eq_some_iff.1 h2).1;simpa using this
  have va:(pre++tail)[i]?=some o:=by simpa using h2
  rw[uY om] at h1
  have aG:=Dl cF aR va (λe he hb=>h3 e (by simpa using he) hb)
  have iG:i<pre.length:=by
   refine Classical.byContradiction λhn=>?_;have:=aG i0 om (hT om cj om);rw[this] at qh;cases qh
  have iE:∀j,(listed.setIfInBounds i true).getD j false=if j=i then true else listed.getD j false:=λj=>zD om false
  have Dn:=zB (S:=λj=>listed.getD j false) (pre++tail) [] (λi k hk=>by simp at hk) (λi o ho hi e he hb=>aR i o ho (by simpa using hi) e he hb)
  have Dp:∀(i':Nat) (o':Oper),(pre++tail)[i']?=some o'->(listed.setIfInBounds i true).getD i' false=true->∀e∈o'.after.toList,Region.binds .any e=true->(listed.setIfInBounds i true).getD e.on false=true:=λi' o' jH iu e he hb=>by
   rw[iE] at iu⊢;split
   .rfl
   split at iu
   .rename_i xf;subst xf;rw[va] at jH;cases jH;exact h3 e (by simpa using he) hb
   exact aR i' o' jH iu e he hb
  have sV:∀j,i∈(iC [] (pre++tail)).getD j []->listed.getD j false=false:=λj hj=>by
   cases hb:listed.getD j false with
   |false=>rfl
   |true=>rw[Dn j i hj hb] at h1;cases h1
  have Ds:∀j,j<(pre++tail).length->(listed.setIfInBounds i true).getD j false=true->j<pre.length:=λj hj hb=>by
   rw[iE] at hb;split at hb
   .rename_i e;subst e;exact iG
   exact mf j hj hb
  have iO:pre[i]?=some o:=by rw[List.getElem?_append_left iG] at va;exact va
  have iD:i<rs.length:=by omega
  have vb:rs[i]?=some rs[i]:=by simp[iD]
  generalize rs[i]=r at vb
  obtain⟨RU,RV⟩:=RN ff (zW vb)
  have uM:∀k∈r.T,∀j r' u,rs[j]?=some r'->i≠j->r'.u=some u->u.k=k->if j<i then j∈(iC [] (pre++tail)).getD i [] else i∈(iC [] (pre++tail)).getD j []:=λk hk j r' u g=>RU k hk j r' u (zW g)
  have ia:=run i o r iO vb
  have Dy:∀k∈r.T,∀f,cellAt (λj=>decide (j<i)) k 0 rs f=cellAt (λj=>listed.getD j false) k 0 rs f:=λk hk f=>xk 0 rs f λj r' u g1 g2 g3=>by
   rw[Nat.zero_add];by_cases jE:i=j
   .subst jE;rw[h1];simp
   have:=uM k hk j r' u g1 jE g2 g3;split at this
   .rename_i mg;rw[aG j (λe=>jE e.symm) this];simpa using mg
   rename_i mg;rw[sV j this];simpa using mg
  have RW:=RM ff va
  have zQ:∀t∈slotsOf (pre++tail).toArray o,∀j o',pre[j]?=some o'->i≠j->o'.dst=some t->if j<i then j∈(iC [] (pre++tail)).getD i [] else i∈(iC [] (pre++tail)).getD j []:=λt ht j o' g=>RW t ht j o' (zW g)
  have Dq:cM I a ((er ((ew 0 pre rs).reverse.filter λe=>decide (e.1<i))++Γ).only (o.looksAt (pre++tail).toArray)):=λt y e=>by
   obtain⟨g1,g2⟩:=Env.CS e;have ht:t∈slotsOf (pre++tail).toArray o:=by
    unfold slotsOf;rw[List.mem_append];exact .inr (by simpa using g2)
   rw[wV (q:=λe=>listed.getD e.1 false) _ (λe he nK=>?_)] at g1
   .exact U.env t y g1
   obtain⟨o',k1,k2⟩:=pj e he;by_cases sW:e.1=i
   .rw[sW,h1];simp
   have:=zQ t ht e.1 o' k1 (λh=>sW h.symm) (by rw[k2,nK]);split at this
   .rename_i mg;rw[aG e.1 sW this];simpa using mg
   rename_i mg;rw[sV e.1 this];simpa using mg
  have Dr:((List.range (pre++tail).length).filter λj=>!(listed.setIfInBounds i true).getD j false).length<=fuel:=by
   have:=filter_lt (l:=List.range (pre++tail).length) (p:=λj=>!listed.getD j false) (q:=λj=>!(listed.setIfInBounds i true).getD j false) (i:=i) (by simpa using cj) (by simp only[h1];rfl) (by simp only[iE];simp) (λj hj=>by
    simp only[iE] at hj;split at hj
    .cases hj
    exact hj)
   omega
  let HS:List (EA->Own):=gu (λi=>listed.getD i false) 0 rs 0 (H0.map λo _=>o)
  let F:Nat->Own:=λk=>match HS[k]? with|some f=>f (ea a γ)|none=>Own.gone
  have RX:dG r.T (ea a γ) F 0 (gu (λj=>decide (j<i)) 0 rs 0 (H0.map λo _=>o))=jQ (ea a γ) HS:=JB (by simp[jQ,HS,zT]) λj f x g1 g2=>by
   rw[mj] at g1;have xn:(jQ (ea a γ) HS)[j]?=some x:=g2;simp only[jQ,List.getElem?_map] at xn;have g3:HS[j]?=((H0.map λ(o:Own) (_:EA)=>o)[j]?).map (cellAt (λi=>listed.getD i false) (0+j) 0 rs):=mj 0 _ j;cases h0:(H0.map λ(o:Own) (_:EA)=>o)[j]? with
   |none=>rw[h0] at g1;simp at g1
   |some f0=>
    rw[h0] at g1 g3
    simp only[Option.map_some,Option.some.injEq,Nat.zero_add] at g1 g3
    rw[g3] at xn
    simp only[Option.map_some,Option.some.injEq] at xn
    cases hT:r.T.contains j with
    |true=>
     simp only[cond_true]
     rw[<-g1,<-xn,Dy j (by simpa using hT)]
    |false=>
     simp only[cond_false,F,g3,<-xn]
  have RY:St ⟨c.W,I,c.n,c.F⟩ I (dG r.T (ea a γ) F 0 (gu (λj=>decide (j<i)) 0 rs 0 (H0.map λo _=>o))) ((er ((ew 0 pre rs).reverse.filter λe=>decide (e.1<i))++Γ).only (o.looksAt (pre++tail).toArray)) a w:=by
   rw[RX];exact⟨U.RS.step,U.own,Dq,U.size,U.defers⟩
  have m0:∀γ',(∀t,o.dst≠some t->γ' t=γ t)->∀I' a' w',(∃v,a'.tmps=(a.put o.dst v).tmps)->St ⟨c.W,I,c.n,c.F⟩ I' (dG r.T (ea a' γ') F 0 (j2 (gu (λj=>decide (j<i)) 0 rs 0 (H0.map λo _=>o)) r.u)) (kg o.dst r.x ((er ((ew 0 pre rs).reverse.filter λe=>decide (e.1<i))++Γ).only (o.looksAt (pre++tail).toArray))) a' w'->
   wpAny P .any (pre++tail).toArray Q fuel (listed.setIfInBounds i true) a' w':=λγ' hγ I' a' w' ⟨v,hv⟩ h'=>by
   refine ih (listed.setIfInBounds i true) γ' I' a' w' (by simpa using cF) Dr Ds Dp ?_;have xo:∀t,o.dst≠some t->a'.tmps.getD t undef=a.tmps.getD t undef:=λt ht=>by
    rw[hv];cases hd:o.dst with
    |none=>rfl
    |some d=>
     have bH:d≠t:=λe=>ht (by rw[hd,e])
     simp[Act.put,bH]
   have dN:dG r.T (ea a' γ') F 0 (j2 (gu (λj=>decide (j<i)) 0 rs 0 (H0.map λo _=>o)) r.u)=jQ (ea a' γ') (gu (λj=>(listed.setIfInBounds i true).getD j false) 0 rs 0 (H0.map λo _=>o)):=JB (by cases r.u<;>simp[jQ,zT,j2]) λj f x g1 g2=>by
    simp only[jQ,List.getElem?_map] at g2;rw[mj] at g2;cases h0:(H0.map λ(o:Own) (_:EA)=>o)[j]? with
    |none=>rw[h0] at g2;simp at g2
    |some f0=>
     rw[h0] at g2
     simp only[Option.map_some,Option.some.injEq,Nat.zero_add] at g2
     have RZ:∀a a',f0 a=f0 a':=by
      rw[List.getElem?_map] at h0;cases hh:H0[j]? with
      |none=>rw[hh] at h0;simp at h0
      |some o0=>rw[hh] at h0;simp at h0;subst h0;intro _ _;rfl
     have pf:∀(zX:∀u,r.u=some u->u.k≠j),cellAt (λj=>(listed.setIfInBounds i true).getD j false) j 0 rs f0=cellAt (λj=>listed.getD j false) j 0 rs f0:=λzX=>xk 0 rs f0 λj' r' u g3 g4 g5=>by
      rw[Nat.zero_add,iE,if_neg];intro e;subst e;rw[vb] at g3;cases g3;exact zX u g4 g5
     cases hT:r.T.contains j with
     |true=>
      simp only[cond_true]
      rw[<-g2]
      have Dz:j∈r.T:=by simpa using hT
      cases hu:r.u with
      |none=>
       rw[hu] at g1
       simp only[j2] at g1
       rw[mj,h0] at g1
       simp only[Option.map_some,Option.some.injEq,Nat.zero_add] at g1
       rw[pf (λu e=>by rw[hu] at e;cases e),<-Dy j Dz,g1]
      |some u=>
       rw[hu] at g1
       simp only[j2] at g1
       by_cases hk:u.k=j
       .subst hk
        have mg:u.k<(gu (λj=>decide (j<i)) 0 rs 0 (H0.map λo _=>o)).length:=by
         rw[zT];exact(List.getElem?_eq_some_iff.1 h0).1
        rw[List.getElem?_set_self mg] at g1
        cases g1
        rw[Jt 0 rs f0 i r u vb hu rfl (by rw[Nat.zero_add,iE];simp) λj' r' u' g3 g4 g5 g6=>?_]
        have:=uM u.k Dz j' r' u' g3 om g4 g5
        rw[if_neg om] at this
        rw[Nat.zero_add,iE,if_neg om]
        exact sV j' this
       rw[List.getElem?_set_ne hk,mj,h0] at g1
       simp only[Option.map_some,Option.some.injEq,Nat.zero_add] at g1
       rw[pf (λu' e=>by rw[hu] at e;cases e;exact hk),<-Dy j Dz,g1]
     |false=>
      simp only[cond_false]
      rw[<-g2]
      have zX:∀u,r.u=some u->u.k≠j:=λu hu e=>by
       have:=RV u hu;rw[e] at this;have:r.T.contains j=true:=by simpa using this
       rw[hT] at this;cases this
      rw[pf zX]
      have g3:HS[j]?=some (cellAt (λi=>listed.getD i false) j 0 rs f0):=by
       have:=mj (S:=λi=>listed.getD i false) (i:=0) (rs:=rs) 0 (H0.map λ(o:Own) (_:EA)=>o) j;rw[h0,Nat.zero_add] at this;exact this
      simp only[F,g3]
      refine(Ju (a:=ea a' γ') (a':=ea a γ) 0 rs f0 (RZ _ _) λj' r' u' g4 g5 g6=>jF j' r' u' g4 g5 _ _ λd hd=>(λhn=>⟨xo d hn,hγ d hn⟩) λe=>?_)
      rw[Nat.zero_add] at g6
      by_cases jE:i=j'
      .subst jE;have xp:listed.getD i false=true:=g6;rw[h1] at xp;cases xp
      have xp:listed.getD j' false=true:=g6
      rw[sV j' (RQ ff va e (zW g4) g5 jE hd)] at xp;cases xp
   rw[dN] at h';have w9:eF c.F c.I c.W I' w':=⟨Im.le_trans U.step.le h'.step.le,λb hb hf=>(h'.step.fL b hb hf).trans (U.step.fL b hb hf),h'.step.cX,h'.step.below⟩;refine⟨w9,h'.own,?_,h'.size,h'.defers⟩;intro t y e;by_cases qi:o.dst=some t
   .have rA:(i,t,r.x)∈(ew 0 pre rs).reverse:=by
     rw[List.mem_reverse];have:=RJ qi (k:=0) iO vb;rwa[Nat.zero_add] at this
    rw[CT (i:=i) (x:=r.x) _ hL rA (by simp only[iE];simp) (λe he hp nK=>?_)] at e
    .cases e;exact h'.env t r.x (by rw[qi];simp[kg,Env.get])
    obtain⟨o',k1,k2⟩:=pj e he;by_cases hle:e.1<=i
    .exact hle
    have bH:i≠e.1:=by omega
    have:=zQ t (by unfold slotsOf;rw[List.mem_append];exact .inl (by simp[qi])) e.1 o' k1 bH (by rw[k2,nK]);rw[if_neg om] at this;have R0:¬e.1=i:=λh=>bH h.symm;rw[iE,if_neg R0,sV e.1 this] at hp;cases hp
   rw[wV (q:=λe=>listed.getD e.1 false) _ (λe he nK=>?_)] at e
   .have:=U.env t y e;rw[xo t qi];exact y.up _ _ _ h'.step.le this
   obtain⟨o',k1,k2⟩:=pj e he;have bH:e.1≠i:=λh=>by
    rw[h,iO] at k1;cases k1;exact qi (by rw[k2,nK])
   simp only[iE,if_neg bH]
  let Q':Exit->Act->World->Prop:=λe a' w'=>match e with
   |.normal=>∃γ',(∀t,o.dst≠some t->γ' t=γ t)/\∃I',St ⟨c.W,I,c.n,c.F⟩ I' (dG r.T (ea a' γ') F 0 (j2 (gu (λj=>decide (j<i)) 0 rs 0 (H0.map λo _=>o)) r.u)) (kg o.dst r.x ((er ((ew 0 pre rs).reverse.filter λe=>decide (e.1<i))++Γ).only (o.looksAt (pre++tail).toArray))) a' w'
   |e=>Q e a' w'
  have hQ:∀e a w,e≠.normal->Q' e a w->Q e a w:=λe a w hn h=>by
   cases e<;>first|exact absurd rfl hn|exact h
  have lH:=ia F (c.W,c.F) I I γ a w Q' RY λγ' hγ I' a' w' h'=>⟨γ',hγ,I',h'⟩
  unfold wpOp
  simp only[h2]
  unfold wpList at lH
  by_cases hw:Region.wanted o (yielded (pre++tail).toArray a.tmps)=true
  .rw[if_pos hw] at lH⊢
   rcases lH with lH|⟨h5,h6⟩
   .exact .inl (Oper.wp_mono (λa' w' h=>h) (Oper.wp_mono (λa' w' ⟨hv,γ',hγ,I',h'⟩=>m0 γ' hγ I' a' w' hv h') (RR hQ lH)))
   exact .inr ⟨h5,let⟨a,w,h⟩:=h6;⟨a,w,hQ _ a w bt h⟩⟩
  rw[if_neg hw] at lH⊢
  obtain⟨γ',hγ,I',h'⟩:=lH
  exact m0 γ' hγ I' _ w ⟨undef,rfl⟩ h'
def aI (P:Program) (c:Ctx) (ops:Array Oper) (Q:Exit->Act->World->Prop) (Γ:Env) (H:List (EA->Own)) (os:List Oper) (ms:Meta):Prop:=
 ∃rs,rs.map Rec.kh=ms/\sZ P c.n ops Γ H os rs/\∀γ I' a' w',St c I' (jQ (ea a' γ) (xl H rs)) (s0 Γ os rs) a' w'->Q .normal a' w'
def aI.R1 {ops:Array Oper} {Hf:List (EA->Own)} (k:∀γ I' a' w',St c I' (jQ (ea a' γ) Hf) Γ a' w'->Q .normal a' w'):aI P c ops Q Γ Hf [] []:=⟨[],rfl,trivial,k⟩
def aI.nil {ops:Array Oper} {Hf:List (EA->Own)} (k:∀I' a' w',St c I' (jQ (ea a' λ_=>Own.gone) Hf) Γ a' w'->Q .normal a' w') (hi:∀t γ,jQ ⟨t,γ⟩ Hf=jQ ⟨t,λ_=>Own.gone⟩ Hf:=by exactλ_ _=>rfl):aI P c ops Q Γ Hf [] []:=.R1 λγ I' a' w' U=>k I' a' w' (hi a'.tmps γ▸U)
def aI.cons {ops:Array Oper} {Hf:List (EA->Own)} {o:Oper} {os:List Oper} {x:AV} {T:List Nat} {u:Option mi} {ms:Meta} (hu:∀v,u=some v->v.fit) (h:zU P c.n ops Hf (j2 Hf u) T (Γ.only (o.looksAt ops)) o x) (k:aI P c ops Q (kg o.dst x Γ) (j2 Hf u) os ms):
 aI P c ops Q Γ Hf (o::os) ((T,u.map λu=>(u.k,u.aS))::ms):=
 let⟨rs,h1,h2,h3⟩:=k;⟨⟨x,T,u⟩::rs,by simp[Rec.kh,h1],⟨h,hu,h2⟩,h3⟩
def St.JD {id:Nat} {pre tail:List Oper} {rs:List Rec} (U:St c I H Γ a w) (hm:P.follows .mixedOrders=true) (ff:xm pre tail (rs.map Rec.kh)=true) (hd:(pre.all λo=>match o.dst with|some d=>Nat.blt d c.n|none=>true)=true)
 (run:sZ P c.n (pre++tail).toArray Γ (H.map λo _=>o) pre rs) (k:∀γ I' a' w',St c I' (jQ (ea a' γ) (xl (H.map λo _=>o) rs)) (s0 Γ pre rs) a' w'->wpList P (pre++tail).toArray Q tail a' w'):(Code.region id (pre++tail).toArray true).wp P Q a w:=by
 refine wp_region_any hm ?_;obtain⟨hlen,jF,ia⟩:=sZ.at (Γ0:=Γ) pre rs 0 _ [] (by simpa[er] using run) (λe he=>by simp at he);have hf:∀i:Nat,(Array.replicate (pre++tail).length false).getD i false=false:=λi=>by
  rw[Array.getD_eq_getD_getElem?,Array.getElem?_replicate];split<;>rfl
 have:=RT (P:=P) (c:=c) (H0:=H) (Γ:=Γ) (Q:=Q) ff hlen hd jF (λi o r ho hr=>by simpa using ia i o r ho hr) (λγ I' a' w' h=>by
  rw[<-Jz,<-JA] at h;exact k γ I' a' w' h) (pre++tail).length (Array.replicate (pre++tail).length false) (λ_=>Own.gone) I a {w with drawn:=w.drawn+1} bt
  (by simpa using List.length_filter_le _ (List.range (pre++tail).length)) (λi hi h=>by rw[hf] at h;cases h) (λi o ho hi=>by rw[hf] at hi;cases hi) (by
    have he:(ew 0 pre rs).reverse.filter (λe=>(Array.replicate (pre++tail).length false).getD e.1 false)=[]:=by
     rw[List.filter_eq_nil_iff];intro e _;rw[hf];simp
    have hh:jQ (ea a λ_=>Own.gone) (gu (λi=>(Array.replicate (pre++tail).length false).getD i false) 0 rs 0 (H.map λo _=>o))=H:=by
     rw[Jw λj _=>hf j];simp[jQ,Function.comp_def]
    rw[he,hh];exact⟨⟨U.step.le,U.step.fL,U.step.cX,U.step.below.drew⟩,⟨λo ho=>⟨o.jd I I w _ (Im.le_refl I) (λ_ _=>rfl) (U.own.all o ho).1,(U.own.all o ho).2⟩,U.own.apart⟩,U.env,U.size,U.defers⟩)
 simpa using this
def St.db {id:Nat} {l:List Oper} (ms:Meta) (U:St c I H Γ a w) (hm:P.follows .mixedOrders=true) (ff:nM l ms=true) (hd:(l.all λo=>match o.dst with|some d=>Nat.blt d c.n|none=>true)=true)
 (run:aI P c l.toArray Q Γ (H.map λo _=>o) l ms):(Code.region id l.toArray true).wp P Q a w:=by
 obtain⟨rs,h0,run,k⟩:=run;subst h0;have:=U.JD (id:=id) (Q:=Q) (pre:=l) (tail:=[]) (rs:=rs) hm (by simpa[xm] using ff) hd (by rw[List.append_nil];exact run) λγ I' a' w' h=>wpList_nil (k γ I' a' w' h);rwa[List.append_nil] at this
end
def JE {a a':EA} {F:Nat->Own} {Hf:List (EA->Own)}:dG [] a F 0 Hf=dG [] a' F 0 Hf:=by
 apply List.ext_getElem?;intro j;rw[sY,sY];rfl
def kJ {k:Nat} {a a':EA} {F:Nat->Own} {Hf:List (EA->Own)} {f:EA->Own} {O:Own} (h:O=f a'):(dG [k] a F 0 Hf).set k O=dG [k] a' F 0 (Hf.set k f):=by
 apply List.ext_getElem?;intro j;rw[sY,List.getElem?_set,List.getElem?_set,sY];have hl:(dG [k] a F 0 Hf).length=Hf.length:=by
  have:∀(n:Nat) (L:List (EA->Own)),(dG [k] a F n L).length=L.length:=by
   intro n L;induction L generalizing n with
   |nil=>rfl
   |cons x L ih=>simp[dG,ih]
  exact this 0 Hf
 rw[hl];by_cases hk:k=j
 .subst hk;by_cases cj:k<Hf.length
  .simp[cj,h]
  simp[cj]
 rw[if_neg hk,if_neg hk];have hc:([k].contains (0+j))=false:=by simp;omega
 rw[hc];rfl
section
variable {P:Program} {c:Ctx} {I:Im} {H:List Own} {Γ:Env} {a:Act} {w:World} {Q:Exit->Act->World->Prop} {ops:Array Oper} {Hf:List (EA->Own)} {os:List Oper} {ms:Meta}
def St.pass {H':List Own} (U:St c I H Γ a w) (h:H=H'):St c I H' Γ a w:=h▸U
def aI.op {o:Oper} {d:Nat} {x:AV} (hg:o.guard=none) (ho:o.dst=some d) (hd:Nat.blt d c.n=true) (h:∀F a,Ok P (dG [] a F 0 Hf) (Γ.only (o.looksAt ops)) true o x)
 (k:aI P c ops Q ((d,x)::Γ) Hf os ms):aI P c ops Q Γ Hf (o::os) (([],none)::ms):=
 aI.cons (u:=none) (x:=x) (λv e=>by cases e) (λF W0 I0 I γ a w Q U kk=>U.op hg ho hd (h F (ea a γ)) λI' a' w' bM=>kk γ (λ_ _=>rfl) I' a' w' (by rw[ho];exact bM.pass JE)) (by rw[ho];exact k)
def aI.zy {o:Oper} {d:Nat} {x:AV} {G:Bool} (hg:hP ops (Γ.only (o.looksAt ops)) o G) (ho:o.dst=some d) (hd:Nat.blt d c.n=true) (h:∀F a,Ok P (dG [] a F 0 Hf) (Γ.only (o.looksAt ops)) G o x)
 (k:aI P c ops Q ((d,.cond G x)::Γ) Hf os ms):aI P c ops Q Γ Hf (o::os) (([],none)::ms):=
 aI.cons (u:=none) (x:=.cond G x) (λv e=>by cases e) (λF W0 I0 I γ a w Q U kk=>U.zy hg ho hd (h F (ea a γ)) λI' a' w' bM=>kk γ (λ_ _=>rfl) I' a' w' (by rw[ho];exact bM.pass JE)) (by rw[ho];exact k)
def aI.R2 {o:Oper} {d:Nat} {x:AV} (T:List Nat) (hc:∀F a a',dG T a F 0 Hf=dG T a' F 0 Hf) (hg:o.guard=none) (ho:o.dst=some d) (hd:Nat.blt d c.n=true) (h:∀F a,Ok P (dG T a F 0 Hf) (Γ.only (o.looksAt ops)) true o x)
 (k:aI P c ops Q ((d,x)::Γ) Hf os ms):aI P c ops Q Γ Hf (o::os) ((T,none)::ms):=
 aI.cons (u:=none) (x:=x) (λv e=>by cases e) (λF W0 I0 I γ a w Q U kk=>U.op hg ho hd (h F (ea a γ)) λI' a' w' bM=>kk γ (λ_ _=>rfl) I' a' w' (by rw[ho];exact bM.pass (hc F (ea a γ) (ea a' γ)))) (by rw[ho];exact k)
def aI.de {o:Oper} {x:AV} {O:Own} (k:Nat)
 (h:∀(F:Nat->Own) (W0:World×(Nat->Prop)) (I0 I:Im) (γ:Nat->Own) (a:Act) (w:World) (Q:Exit->Act->World->Prop),St ⟨W0.1,I0,c.n,W0.2⟩ I (dG [k] (ea a γ) F 0 Hf) (Γ.only (o.looksAt ops)) a w->
   (∀I' a' w',St ⟨W0.1,I0,c.n,W0.2⟩ I' ((dG [k] (ea a γ) F 0 Hf).set k O) (kg o.dst x (Γ.only (o.looksAt ops))) a' w'->wpList P ops Q [] a' w')->wpList P ops Q [o] a w)
 (r:aI P c ops Q (kg o.dst x Γ) (Hf.set k λ_=>O) os ms):aI P c ops Q Γ Hf (o::os) (([k],some (k,[]))::ms):=
 aI.cons (u:=some ⟨k,[],λ_=>O⟩) (x:=x) (λv e=>by cases e;intro _ _ _;rfl) (λF W0 I0 I γ a w Q U kk=>h F W0 I0 I γ a w Q U λI' a' w' bM=>kk γ (λ_ _=>rfl) I' a' w' (bM.pass (kJ rfl))) r
def St.qk {x:Own} (k:Nat) (U:St c I (H++[x]) Γ a w) (hk:H[k]?=some Own.gone):St c I (H.set k x) Γ a w:=by
 refine⟨U.step,⟨λo ho=>?_,?_⟩,U.env,U.size,U.defers⟩
 .rcases List.mem_or_eq_of_mem_set ho with ho|rfl
  .exact U.own.all o (List.mem_append_left _ ho)
  exact U.own.all _ bt
 have hn:=U.own.apart;rw[List.pairwise_append] at hn;refine pe hn.1 λb hb=>.inr λy hy e=>?_;exact hn.2.2 y hy x bt b e hb
def St.fP (U:St c I H Γ a w):St c I (H++[Own.gone]) Γ a w:=
 ⟨U.step,⟨λy hy=>by
  rcases List.mem_append.1 hy with hy|hy
  .exact U.own.all y hy
  .obtain rfl:=by simpa using hy
   exact⟨trivial,λb e=>by cases e⟩,
  by rw[List.pairwise_append];exact⟨U.own.apart,by simp,λy _ z hz b _ e=>by obtain rfl:z=_:=List.mem_singleton.1 hz;exact e.elim⟩⟩,U.env,U.size,U.defers⟩
def js {k:Nat} {a:EA} {F:Nat->Own} {f:EA->Own} (h:Hf[k]?=some f):(dG [k] a F 0 Hf)[k]?=some (f a):=by
 rw[sY,h];simp
variable {T T' E ty:TypeId} {p:String} {af:Array Edge} {ag:Bool} {n m d:Nat} {zv:Value} {l lx:List AV} {z y:Operand}
def zY {a:Act} {b:Nat} (h:a.tmps.getD d undef=.pointer (some ⟨b,0,none⟩)):mh T l (a.tmps.getD d undef)=Own.box b T l:=by rw[h];rfl
def ql {k:Nat} {g:Value->Own} (h:∀v v',v=v'->g v=g v'):∀v,(some (⟨k,[d],λa=>g (a.tmps.getD d undef)⟩:mi))=some v->v.fit:=λv e=>by
 cases e;intro a a' hh;exact h _ _ (hh d bt).1
def aI.alloc (k:Nat) (hk:Hf[k]?=some λ_=>Own.gone) (hd:Nat.blt d c.n=true) (hT:Ty P T ag n m zv) (hz:∀I,bm I l zv.cells.toList)
 (r:aI P c ops Q ((d,AV.sX)::Γ) (Hf.set k λa=>mh T l (a.tmps.getD d undef)) os ms):aI P c ops Q Γ Hf (⟨some d,.alloc T,ty,p,af,none⟩::os) (([k],some (k,[d]))::ms):=
 aI.cons (u:=some ⟨k,[d],λa=>mh T l (a.tmps.getD d undef)⟩) (x:=AV.sX) (ql λv v' e=>e▸rfl) (λF W0 I0 I γ a w Q U kk=>U.alloc hd hT hz λb I' a' w' bM=>by
  have hv:a'.tmps.getD d undef=.pointer (some ⟨b,0,none⟩):=bM.env d (.val (.pointer (some ⟨b,0,none⟩))) (by simp[Env.get]);refine kk γ (λ_ _=>rfl) I' a' w' ?_;have h1:=(bM.qk k (js hk)).pass (kJ (a':=ea a' γ) (f:=λa=>mh T l (a.tmps.getD d undef)) (zY hv).symm);exact⟨h1.step,h1.own,λt x e=>by
   simp only[kg,Env.get] at e;cases hb:Nat.beq d t with
   |true=>
    rw[hb] at e;simp only[cond_true] at e;cases e
    obtain rfl:d=t:=Nat.eq_of_beq_eq_true hb
    exact⟨b,hv⟩
   |false=>rw[hb] at e;exact h1.env t x (by simp only[Env.get,hb];exact e),h1.size,h1.defers⟩) r
def aI.pk (k:Nat) (hk:Hf[k]?=some λa=>mh T' l (a.tmps.getD d undef)) (hT:Ty P T true n m zv) (hy:Env.get d (Γ.only ((⟨none,.store T (.tmp d) z,ty,p,af,none⟩:Oper).looksAt ops))=some AV.sX)
 (hz:At (Γ.only ((⟨none,.store T (.tmp d) z,ty,p,af,none⟩:Oper).looksAt ops)) true z (.agg lx)) (hn:lx.length=n) (hl:l.length=n)
 (r:aI P c ops Q Γ (Hf.set k λa=>mh T' lx (a.tmps.getD d undef)) os ms):aI P c ops Q Γ Hf (⟨none,.store T (.tmp d) z,ty,p,af,none⟩::os) (([k],some (k,[d]))::ms):=
 aI.cons (u:=some ⟨k,[d],λa=>mh T' lx (a.tmps.getD d undef)⟩) (x:=AV.any) (ql λv v' e=>e▸rfl) (λF W0 I0 I γ a w Q U kk=>by
  obtain⟨b,hb⟩:=U.env d _ hy;obtain⟨cs,hv,w4⟩:=hz I a U.env rfl;have eo:=js (a:=ea a γ) (F:=F) hk;rw[zY hb] at eo;obtain⟨w',hr,bM⟩:=U.zE (q:=0) (lx:=lx) (v:=a.eval z) k hT eo (by rw[hv];exact w4) hn (by rw[hl];simp);have e:dV l 0 lx=lx:=by simp[dV];omega
  rw[e] at bM;exact hZ rfl (sL hb rfl hr (kk γ (λ_ _=>rfl) I _ w' (bM.pass (kJ (a':=ea a γ) (f:=λa=>mh T' lx (a.tmps.getD d undef)) (zY hb).symm))))) r
def St.lI (k:Nat) (U:St c I H Γ a w) (hd:Env.get d Γ=some AV.sX) (hk:H[k]?=some (mh T l (a.tmps.getD d undef))):∃b,St c I (H.set k (Own.box b T l)) ((d,.val (.pointer (some ⟨b,0,none⟩)))::Γ) a w:=by
 obtain⟨b,hb⟩:∃b,a.tmps.getD d undef=.pointer (some ⟨b,0,none⟩):=U.env d _ hd;rw[zY hb] at hk;have e:H.set k (Own.box b T l)=H:=by
  apply List.ext_getElem?;intro j;rw[List.getElem?_set];split
  .rename_i e;subst e;rw[hk];simp[(List.getElem?_eq_some_iff.1 hk).1]
  rfl
 refine⟨b,U.step,by rw[e];exact U.own,λt x e=>?_,U.size,U.defers⟩;simp only[Env.get] at e;cases j1:Nat.beq d t with
 |true=>
  rw[j1] at e;simp only[cond_true] at e;cases e
  obtain rfl:d=t:=Nat.eq_of_beq_eq_true j1
  exact hb
 |false=>rw[j1] at e;exact U.env t x (by simpa using e)
def aI.JF {v:Value} {sz:Nat} {l l2:List (List AV)} (k:Nat) (hk:Hf[k]?=some λ_=>Own.row v E sz l) (hd:Nat.blt d c.n=true) (hU:P.underlying T=some (.slice E)) (hE:Ty P E ag sz m zv) (fe:zv.cells.size=sz)
 (hy:At (Γ.only ((⟨some d,.call ⟨.builtin .append,#[y,z],#[T,T]⟩,ty,p,af,none⟩:Oper).looksAt ops)) true y (.val v)) (hz:At (Γ.only ((⟨some d,.call ⟨.builtin .append,#[y,z],#[T,T]⟩,ty,p,af,none⟩:Oper).looksAt ops)) true z (.rows sz l2))
 (hb:(l.length+l2.length)*m<=140737488355328/\l.length+l2.length<=140737488355328)
 (r:aI P c ops Q ((d,.rows sz (l++l2))::Γ) (Hf.set k λ_=>Own.gone) os ms):aI P c ops Q Γ Hf (⟨some d,.call ⟨.builtin .append,#[y,z],#[T,T]⟩,ty,p,af,none⟩::os) (([k],some (k,[]))::ms):=
 aI.cons (u:=some ⟨k,[],λ_=>Own.gone⟩) (x:=.rows sz (l++l2)) (λv e=>by cases e;intro _ _ _;rfl) (λF W0 I0 I γ a w Q U kk=>U.append k hd hU hE fe hy hz (js hk) hb λv' a' w' bM=>by
  obtain⟨I',ey,hf⟩:=bM.ph k (by rw[List.getElem?_set_self (List.getElem?_eq_some_iff.1 (js (a:=ea a γ) (F:=F) hk)).1]);rw[List.set_set] at ey;have jI:=ey.sQ (t:=d) (by simp[Env.get]) hf;refine kk γ (λ_ _=>rfl) I' a' w' ((jI.le λt x e=>?_).pass (kJ rfl));simp only[kg,Env.get] at e⊢;cases j1:Nat.beq d t with
  |true=>rw[j1] at e;exact e
  |false=>rw[j1] at e;simpa using e) r
def aI.zZ {d':Nat} {sz:Nat} {l l2:List (List AV)} (k:Nat) (hk:Hf[k]?=some λa=>Own.row (a.tmps.getD d' undef) E sz l) (hd:Nat.blt d c.n=true) (hU:P.underlying T=some (.slice E)) (hE:Ty P E ag sz m zv) (fe:zv.cells.size=sz)
 (hz:At (Γ.only ((⟨some d,.call ⟨.builtin .append,#[.tmp d',z],#[T,T]⟩,ty,p,af,none⟩:Oper).looksAt ops)) true z (.rows sz l2))
 (hb:(l.length+l2.length)*m<=140737488355328/\l.length+l2.length<=140737488355328)
 (r:aI P c ops Q ((d,.rows sz (l++l2))::Γ) (Hf.set k λ_=>Own.gone) os ms):aI P c ops Q Γ Hf (⟨some d,.call ⟨.builtin .append,#[.tmp d',z],#[T,T]⟩,ty,p,af,none⟩::os) (([k],some (k,[]))::ms):=
 aI.cons (u:=some ⟨k,[],λ_=>Own.gone⟩) (x:=.rows sz (l++l2)) (λv e=>by cases e;intro _ _ _;rfl) (λF W0 I0 I γ a w Q U kk=>by
  have eo:=js (a:=ea a γ) (F:=F) hk;obtain⟨v',w',hr,bM⟩:=U.zG (ty:=ty) k hU hE fe eo (hz I a U.env rfl) hb.1 (by simp only[maxLen];omega);refine hZ rfl ?_;unfold Oper.wp;have e1:a.eval (.tmp d')=a.tmps.getD d' undef:=rfl;simp only[execOp,resolve,invoke,builtin,Sem.run_bind,Sem.run_pure,Result.andThen_ok,List.map_toArray,List.map_cons,List.map_nil,e1,hr];have rG:=bM.lC bM.step (Im.le_refl _) bM.own hd (x:=.val v') rfl;obtain⟨I',ey,hf⟩:=rG.ph k (by rw[List.getElem?_set_self (List.getElem?_eq_some_iff.1 eo).1]);rw[List.set_set] at ey;have jI:=ey.sQ (t:=d) (by simp[Env.get]) hf;refine kk γ (λ_ _=>rfl) I' _ w' ((jI.le λt x e=>?_).pass (kJ rfl));simp only[kg,Env.get] at e⊢;cases j1:Nat.beq d t with
  |true=>rw[j1] at e;exact e
  |false=>rw[j1] at e;simpa using e) r
def AV.ki:AV:=⟨λ_ v=>v.oneCell'=true,λ_ _ _ _ h=>h⟩
def aI.z0 {v:Value} {sz:Nat} {l l2:List (List AV)} (k:Nat) (hk:Hf[k]?=some λ_=>Own.row v E sz l) (hd:Nat.blt d c.n=true) (hU:P.underlying T=some (.slice E)) (hE:Ty P E ag sz m zv) (fe:zv.cells.size=sz)
 (hy:At (Γ.only ((⟨some d,.call ⟨.builtin .append,#[y,z],#[T,T]⟩,ty,p,af,none⟩:Oper).looksAt ops)) true y (.val v)) (hz:At (Γ.only ((⟨some d,.call ⟨.builtin .append,#[y,z],#[T,T]⟩,ty,p,af,none⟩:Oper).looksAt ops)) true z (.rows sz l2))
 (hb:(l.length+l2.length)*m<=140737488355328/\l.length+l2.length<=140737488355328)
 (r:aI P c ops Q ((d,AV.ki)::Γ) (Hf.set k λa=>Own.row (a.tmps.getD d undef) E sz (l++l2)) os ms):aI P c ops Q Γ Hf (⟨some d,.call ⟨.builtin .append,#[y,z],#[T,T]⟩,ty,p,af,none⟩::os) (([k],some (k,[d]))::ms):=
 aI.cons (u:=some ⟨k,[d],λa=>Own.row (a.tmps.getD d undef) E sz (l++l2)⟩) (x:=AV.ki) (ql (g:=λv=>Own.row v E sz (l++l2)) λv v' e=>e▸rfl) (λF W0 I0 I γ a w Q U kk=>U.append k hd hU hE fe hy hz (js hk) hb λv' a' w' bM=>by
  have hv:a'.tmps.getD d undef=v':=bM.env d (.val v') (by simp[Env.get]);have s5:=bM.own.all (Own.row v' E sz (l++l2)) (List.mem_of_getElem? (i:=k) (by rw[List.getElem?_set_self (List.getElem?_eq_some_iff.1 (js (a:=ea a γ) (F:=F) hk)).1]));have h1:=bM.pass (kJ (a':=ea a' γ) (f:=λa=>Own.row (a.tmps.getD d undef) E sz (l++l2)) (by rw[hv]));exact kk γ (λ_ _=>rfl) I a' w' ⟨h1.step,h1.own,λt x e=>by
   simp only[kg,Env.get] at e;cases hb:Nat.beq d t with
   |true=>
    rw[hb] at e;simp only[cond_true] at e;cases e
    obtain rfl:d=t:=Nat.eq_of_beq_eq_true hb
    show(a'.tmps.getD d undef).oneCell'=true
    rw[hv]
    obtain⟨_,⟨_,rfl|⟨q,rfl,_⟩⟩|⟨b,cap,cur,rfl,_⟩⟩:=s5.1<;>rfl
   |false=>rw[hb] at e;exact h1.env t x (by simp only[Env.get,hb];exact e),h1.size,h1.defers⟩) r
def aI.xq {d' b q:Nat} {l:List AV} (k:Nat) (hk:Hf[k]?=some λ_=>Own.box b T' l) (hT:Ty P T false 1 m zv) (hy:At (Γ.only ((⟨none,.store T y (.tmp d'),ty,p,af,none⟩:Oper).looksAt ops)) true y (.val (.pointer (some ⟨b,q,none⟩))))
 (hz:Env.get d' (Γ.only ((⟨none,.store T y (.tmp d'),ty,p,af,none⟩:Oper).looksAt ops))=some AV.ki) (hq:Nat.blt q l.length=true)
 (r:aI P c ops Q Γ (Hf.set k λa=>Own.box b T' (l.set q (.val (a.tmps.getD d' undef)))) os ms):aI P c ops Q Γ Hf (⟨none,.store T y (.tmp d'),ty,p,af,none⟩::os) (([k],some (k,[d']))::ms):=
 aI.cons (u:=some ⟨k,[d'],λa=>Own.box b T' (l.set q (.val (a.tmps.getD d' undef)))⟩) (x:=AV.any) (ql (g:=λv=>Own.box b T' (l.set q (.val v))) λv v' e=>e▸rfl) (λF W0 I0 I γ a w Q U kk=>by
  have hb:=hy I a U.env rfl;have h1:(a.tmps.getD d' undef).oneCell'=true:=U.env d' _ hz;have hc:=wZ h1;have IP:q<l.length:=by simpa using hq
  obtain⟨w',hr,bM⟩:=U.zE (q:=q) (lx:=[.val (a.tmps.getD d' undef)]) (v:=a.tmps.getD d' undef) k hT (js hk) (by rw[hc];exact⟨⟨rfl,h1⟩,trivial⟩) rfl fK;rw[IQ IP] at bM;exact hZ rfl (sL hb rfl hr (kk γ (λ_ _=>rfl) I _ w' (bM.pass (kJ (f:=λa=>Own.box b T' (l.set q (.val (a.tmps.getD d' undef)))) rfl))))) r
def AV.bare:AV:=⟨λ_ v=>sH v,λ_ _ _ _ h=>h⟩
def qm {H:List Own} {g:Bool} {d:Option Tmp} {gd:Option (Nat×Bool)} {sz:Nat} (hT:P.underlying T=some (.slice E)) (hE:Ty P E ag sz m zv):Ok P H Γ g ⟨d,.buildSlice T 0 #[],ty,p,af,gd⟩ AV.bare:=
 λbase I a w K Q he hm hw hg k=>by
  have gI:(sizeOf E).run P w=.ok sz w:=hE.size;have hr:(Instr.buildSlice T 0 ((#[]:Array (Nat×Operand)).map λ(i,x)=>(i,a.eval x))).run P w=.ok (.slice (some ⟨w.heap.size,0,none⟩) 0 0) (w.alloc (.cells #[] E)):=by
   simp only[Instr.buildSlice,Sem.run_bind,run_underlying hT,Result.andThen_ok,gI];have e0:Array.range 0=#[]:=rfl;simp[Instr.fill,zK,e0]
  unfold Oper.wp;simp only[execOp,Sem.run_bind,hr,Result.andThen_ok,Sem.run_pure,Oper.upon_value];exact k _ I _ (.inr ⟨⟨w.heap.size,0,none⟩,rfl,rfl⟩) (Step.alloc hm (.cells #[] E))
def xr {H:List Own} {g:Bool} {d:Option Tmp} {gd:Option (Nat×Bool)} {sz:Nat} {l2:List (List AV)} (hU:P.underlying T=some (.slice E)) (hE:Ty P E ag sz m zv) (fe:zv.cells.size=sz) (hy:At Γ g y AV.bare) (hz:At Γ g z (.rows sz l2)) (hb:g=true->l2.length*m<=140737488355328/\l2.length<=140737488355328):
 Ok P H Γ g ⟨d,.call ⟨.builtin .append,#[y,z],#[T,T]⟩,ty,p,af,gd⟩ (.rows sz l2):=
 λbase I a w K Q he hm hw hg k=>by
  have qe:sH (a.eval y):=hy I a he hg;have R3:St ⟨w,I,0,jD⟩ I [] [] {tmps:=#[],defers:=[]} w:=⟨eF.refl hm,bO.nil _ _ _,λt x e=>by simp[Env.get] at e,rfl,rfl⟩;have gI:=R3.zF (sz:=sz) E qe;obtain⟨v',w',hr,ey⟩:=gI.zG (ty:=ty) 0 hU hE fe rfl (hz I a he hg) (by simpa using(hb hg).1) (by have:=(hb hg).2;simp only[maxLen];simp;omega);obtain⟨I',jI,hv⟩:=ey.ph 0 rfl;unfold Oper.wp;simp only[execOp,resolve,invoke,builtin,Sem.run_bind,Sem.run_pure,Result.andThen_ok,List.map_toArray,List.map_cons,List.map_nil,hr];exact k v' I' w' hv jI.step.all
def aI.xt {sz:Nat} {l2:List (List AV)} (k:Nat) (hk:Hf[k]?=some λ_=>Own.gone) (hd:Nat.blt d c.n=true) (hU:P.underlying T=some (.slice E)) (hE:Ty P E ag sz m zv) (fe:zv.cells.size=sz)
 (hy:At (Γ.only ((⟨some d,.call ⟨.builtin .append,#[y,z],#[T,T]⟩,ty,p,af,none⟩:Oper).looksAt ops)) true y AV.bare) (hz:At (Γ.only ((⟨some d,.call ⟨.builtin .append,#[y,z],#[T,T]⟩,ty,p,af,none⟩:Oper).looksAt ops)) true z (.rows sz l2))
 (hb:l2.length*m<=140737488355328/\l2.length<=140737488355328)
 (r:aI P c ops Q ((d,AV.ki)::Γ) (Hf.set k λa=>Own.row (a.tmps.getD d undef) E sz l2) os ms):aI P c ops Q Γ Hf (⟨some d,.call ⟨.builtin .append,#[y,z],#[T,T]⟩,ty,p,af,none⟩::os) (([k],some (k,[d]))::ms):=
 aI.cons (u:=some ⟨k,[d],λa=>Own.row (a.tmps.getD d undef) E sz l2⟩) (x:=AV.ki) (ql (g:=λv=>Own.row v E sz l2) λv v' e=>e▸rfl) (λF W0 I0 I γ a w Q U kk=>by
  have qe:sH (a.eval y):=hy I a U.env rfl;have hlen:=List.getElem?_eq_some_iff.1 (js (a:=ea a γ) (F:=F) hk);have gI:=(U.zF (sz:=sz) E qe).qk k (js (a:=ea a γ) (F:=F) hk);have R4:((dG [k] (ea a γ) F 0 Hf).set k (Own.row (a.eval y) E sz []))[k]?=some (Own.row (a.eval y) E sz []):=by rw[List.getElem?_set_self hlen.1]
  obtain⟨v',w',hr,bM⟩:=gI.zG (ty:=ty) k hU hE fe R4 (hz I a U.env rfl) (by simpa using hb.1) (by simp only[maxLen];simp;omega);rw[List.set_set,List.nil_append] at bM;refine hZ rfl ?_;unfold Oper.wp;simp only[execOp,resolve,invoke,builtin,Sem.run_bind,Sem.run_pure,Result.andThen_ok,List.map_toArray,List.map_cons,List.map_nil,hr];have s5:=bM.own.all (Own.row v' E sz l2) (List.mem_of_getElem? (i:=k) (by rw[List.getElem?_set_self hlen.1]));have h1:v'.oneCell'=true:=by
   obtain⟨_,⟨_,rfl|⟨q,rfl,_⟩⟩|⟨b,cap,cur,rfl,_⟩⟩:=s5.1<;>rfl
  have rG:=bM.lC (d:=d) (v:=v') (x:=AV.ki) bM.step (Im.le_refl _) bM.own hd h1;refine kk γ (λ_ _=>rfl) I _ w' (rG.pass (kJ (a':=ea (a.put (some d) v') γ) (f:=λa=>Own.row (a.tmps.getD d undef) E sz l2) ?_));have:(a.put (some d) v').tmps.getD d undef=v':=by
   have jg:d<c.n:=by simpa using hd
   have cF:=U.size;simp[Act.put,cF,jg]
  rw[this]) r
end
end Go.Proofs.YtldbakcpcfdlaaaGreat
