/- Part 4: rules of the proofs. -/
import Derived.Test.YtldbakcpcfdlaaaGreatP03
set_option linter.all false
namespace Go.Proofs.YtldbakcpcfdlaaaGreat
open Go Go.RowKit
structure EA where
 tmps:Array Value
 g:Nat->Own
abbrev ea (a:Act) (γ:Nat->Own):EA:=⟨a.tmps,γ⟩
structure nr where
 k:Nat
 aK:List Nat
 f:EA->Own
structure Rec where
 x:AV
 T:List Nat
 u:Option nr
def nr.fit (u:nr):Prop:=∀a a':EA,(∀d∈u.aK,a.tmps.getD d undef=a'.tmps.getD d undef/\a.g d=a'.g d)->u.f a=u.f a'
def l6 (d:Option Nat) (x:AV) (Γ:Env):Env:=match d with|some d=>(d,x)::Γ|none=>Γ
def lj (H:List (EA->Own)):Option nr->List (EA->Own)
 |none=>H
 |some u=>H.set u.k u.f
def cellAt (S:Nat->Bool) (k:Nat):Nat->List Rec->(EA->Own)->EA->Own
 |_,[],f=>f
 |i,r::rs,f=>cellAt S k (i+1) rs (match r.u with|none=>f|some u=>bif S i&&Nat.beq u.k k then u.f else f)
def gH (S:Nat->Bool) (i:Nat) (rs:List Rec):Nat->List (EA->Own)->List (EA->Own)
 |_,[]=>[]
 |k,f::fs=>cellAt S k i rs f::gH S i rs (k+1) fs
def dq (T:List Nat) (a:EA) (F:Nat->Own):Nat->List (EA->Own)->List Own
 |_,[]=>[]
 |k,f::fs=>(bif T.contains k then f a else F k)::dq T a F (k+1) fs
def ku (a:EA) (H:List (EA->Own)):List Own:=H.map λf=>f a
def nu {S:Nat->Bool} {i:Nat} {rs:List Rec}:∀(k:Nat) (H:List (EA->Own)) (j:Nat),(gH S i rs k H)[j]?=(H[j]?).map (cellAt S (k+j) i rs)
 |_,[],j=>by simp[gH]
 |k,f::fs,0=>by simp[gH]
 |k,f::fs,j+1=>by
  simp only[gH,List.getElem?_cons_succ];rw[nu (k+1) fs j];have e:k+1+j=k+(j+1):=by omega
  rw[e]
def o6 {T:List Nat} {a:EA} {F:Nat->Own}:∀(k:Nat) (H:List (EA->Own)) (j:Nat),(dq T a F k H)[j]?=(H[j]?).map (λf=>bif T.contains (k+j) then f a else F (k+j))
 |_,[],j=>by simp[dq]
 |k,f::fs,0=>by simp[dq]
 |k,f::fs,j+1=>by
  simp only[dq,List.getElem?_cons_succ];rw[o6 (k+1) fs j];have e:k+1+j=k+(j+1):=by omega
  rw[e]
def Bc {S:Nat->Bool} {i:Nat} {rs:List Rec}:∀(k:Nat) (H:List (EA->Own)),(gH S i rs k H).length=H.length
 |_,[]=>rfl
 |k,f::fs=>by simp[gH,Bc (k+1) fs]
def yE {S S':Nat->Bool} {k:Nat}:∀(i:Nat) (rs:List Rec) (f:EA->Own),(∀(j:Nat) (r:Rec) (u:nr),rs[j]?=some r->r.u=some u->u.k=k->S (i+j)=S' (i+j))->cellAt S k i rs f=cellAt S' k i rs f
 |_,[],_,_=>rfl
 |i,r::rs,f,h=>by
  have ih:=λf=>yE (S:=S) (S':=S') (k:=k) (i+1) rs f λj r' u h1 h2 h3=>by
   have:=h (j+1) r' u (by simpa using h1) h2 h3;have e:i+1+j=i+(j+1):=by omega
   rw[e];exact this
  simp only[cellAt];rw[ih];cases hu:r.u with
  |none=>rfl
  |some u=>
   simp only[]
   cases hb:Nat.beq u.k k with
   |false=>simp
   |true=>rw[show S i=S' i from h 0 r u rfl hu (Nat.eq_of_beq_eq_true hb)]
def Et {S:Nat->Bool} {k:Nat}:∀(i:Nat) (rs:List Rec) (f:EA->Own),(∀j,i<=j->S j=false)->cellAt S k i rs f=f
 |_,[],_,_=>rfl
 |i,r::rs,f,h=>by
  simp only[cellAt];rw[Et (i+1) rs _ λj hj=>h j om];cases r.u with
  |none=>rfl
  |some u=>simp[h i (Nat.le_refl _)]
def JR {S:Nat->Bool} {k:Nat}:∀(i:Nat) (rs:List Rec) (f:EA->Own) (j:Nat) (r:Rec) (u:nr),rs[j]?=some r->r.u=some u->u.k=k->S (i+j)=true->
 (∀(j':Nat) (r':Rec) (u':nr),rs[j']?=some r'->r'.u=some u'->u'.k=k->j<j'->S (i+j')=false)->cellAt S k i rs f=u.f
 |_,[],_,_,_,_,h,_,_,_,_=>by simp at h
 |i,r0::rs,f,0,r,u,h1,h2,h3,h4,h5=>by
  simp at h1;subst h1;simp only[cellAt,h2];have hb:Nat.beq u.k k=true:=by rw[h3];exact Nat.beq_refl k
  have Rk:S i=true:=h4;rw[hb,Rk];simp only[Bool.and_self,cond_true];have:=yE (S:=S) (S':=λ_=>false) (k:=k) (i+1) rs u.f λj' r' u' g1 g2 g3=>by
   have:=h5 (j'+1) r' u' (by simpa using g1) g2 g3 om;rw[show i+1+j'=i+(j'+1) from by omega];exact this
  rw[this];exact Et _ _ _ λ_ _=>rfl
 |i,r0::rs,f,j+1,r,u,h1,h2,h3,h4,h5=>by
  simp only[cellAt];exact JR (i+1) rs _ j r u (by simpa using h1) h2 h3 (by rw[show i+1+j=i+(j+1) from by omega];exact h4) λj' r' u' g1 g2 g3 g4=>by
   have:=h5 (j'+1) r' u' (by simpa using g1) g2 g3 om;rw[show i+1+j'=i+(j'+1) from by omega];exact this
def JS {S:Nat->Bool} {k:Nat} {a a':EA}:∀(i:Nat) (rs:List Rec) (f:EA->Own),f a=f a'->(∀(j:Nat) (r:Rec) (u:nr),rs[j]?=some r->r.u=some u->S (i+j)=true->u.f a=u.f a')->cellAt S k i rs f a=cellAt S k i rs f a'
 |_,[],_,h,_=>h
 |i,r::rs,f,h,hd=>by
  simp only[cellAt];refine JS (i+1) rs _ ?_ λj r' u h1 h2 h3=>hd (j+1) r' u (by simpa using h1) h2 (by rw[show i+(j+1)=i+1+j from by omega];exact h3);cases hu:r.u with
  |none=>exact h
  |some u=>
   simp only[]
   cases hb:S i&&Nat.beq u.k k with
   |false=>exact h
   |true=>exact hd 0 r u rfl hu (by simp only[Bool.and_eq_true] at hb;exact hb.1)
def JT {S:Nat->Bool} {i:Nat} {r:Rec} {rs:List Rec} {H:List (EA->Own)} (hS:S i=true):gH S (i+1) rs 0 (lj H r.u)=gH S i (r::rs) 0 H:=by
 apply List.ext_getElem?;intro j;rw[nu,nu];cases hu:r.u with
 |none=>simp[lj,cellAt,hu]
 |some u=>
  simp only[lj,List.getElem?_set]
  by_cases hk:u.k=j
  .subst hk
   by_cases hl:u.k<H.length
   .simp[hl,cellAt,hu,hS]
   simp[hl]
  rw[if_neg hk]
  have hb:Nat.beq u.k j=false:=by
   cases hb:Nat.beq u.k j with
   |false=>rfl
   |true=>exact absurd (Nat.eq_of_beq_eq_true hb) hk
  cases H[j]? with
  |none=>rfl
  |some f=>simp[cellAt,hu,hb]
def JU {S:Nat->Bool} {i:Nat} {rs:List Rec} {H:List (EA->Own)} (h:∀j,i<=j->S j=false):gH S i rs 0 H=H:=by
 apply List.ext_getElem?;intro j;rw[nu];cases H[j]? with
 |none=>rfl
 |some f=>simp[Et i rs f h]
def Bd (P:Program) (n:Nat) (ops:Array Oper) (H H':List (EA->Own)) (T:List Nat) (Γ:Env) (o:Oper) (x:AV):Prop:=
 ∀(F:Nat->Own) (W0:World×(Nat->Prop)) (I0 I:Im) (γ:Nat->Own) (a:Act) (w:World) (Q:Exit->Act->World->Prop),St ⟨W0.1,I0,n,W0.2⟩ I (dq T (ea a γ) F 0 H) Γ a w->
  (∀γ',(∀t,o.dst≠some t->γ' t=γ t)->∀I' a' w',St ⟨W0.1,I0,n,W0.2⟩ I' (dq T (ea a' γ') F 0 H') (l6 o.dst x Γ) a' w'->wpList P ops Q [] a' w')->wpList P ops Q [o] a w
def uq (P:Program) (n:Nat) (ops:Array Oper):Env->List (EA->Own)->List Oper->List Rec->Prop
 |_,_,[],[]=>True
 |Γ,H,o::os,r::rs=>Bd P n ops H (lj H r.u) r.T (Γ.only (o.looksAt ops)) o r.x/\(∀u,r.u=some u->u.fit)/\uq P n ops (l6 o.dst r.x Γ) (lj H r.u) os rs
 |_,_,_,_=>False
def eV:Nat->List Oper->List Rec->List nb
 |k,o::os,r::rs=>match o.dst with|some d=>(k,d,r.x)::eV (k+1) os rs|none=>eV (k+1) os rs
 |_,_,_=>[]
def Eu:∀(k:Nat) (os:List Oper) (rs:List Rec),(eV k os rs).Pairwise (λe f=>e.1<f.1)/\∀e∈eV k os rs,k<=e.1
 |k,[],_=>by simp[eV]
 |k,o::os,[]=>by simp[eV]
 |k,o::os,r::rs=>by
  have ih:=Eu (k+1) os rs;simp only[eV];split
  .refine⟨List.pairwise_cons.2 ⟨λe he=>by have:=ih.2 e he;simp;omega,ih.1⟩,λe he=>?_⟩;rcases List.mem_cons.1 he with rfl|he
   .simp
   have:=ih.2 e he;omega
  exact⟨ih.1,λe he=>by have:=ih.2 e he;omega⟩
def JV {e:nb}:∀{k:Nat} {os:List Oper} {rs:List Rec},e∈eV k os rs->∃i o r,os[i]?=some o/\rs[i]?=some r/\e.1=k+i/\o.dst=some e.2.1/\e.2.2=r.x
 |k,[],_,h=>by simp[eV] at h
 |k,o::os,[],h=>by simp[eV] at h
 |k,o::os,r::rs,h=>by
  simp only[eV] at h;have key:e∈eV (k+1) os rs->∃i o' r',(o::os)[i]?=some o'/\(r::rs)[i]?=some r'/\e.1=k+i/\o'.dst=some e.2.1/\e.2.2=r'.x:=λh=>by
   obtain⟨i,o',r',h1,h2,h3,h4⟩:=JV h;exact⟨i+1,o',r',by simpa using h1,by simpa using h2,by omega,h4⟩
  split at h
  .rename_i d hd;rcases List.mem_cons.1 h with rfl|h
   .exact⟨0,o,r,rfl,rfl,rfl,hd,rfl⟩
   exact key h
  exact key h
def Rl {i d:Nat} {o:Oper} {r:Rec} (hd:o.dst=some d):∀{k:Nat} {os:List Oper} {rs:List Rec},os[i]?=some o->rs[i]?=some r->(k+i,d,r.x)∈eV k os rs:=by
 induction i with
 |zero=>intro k os rs h1 h2;cases os<;>cases rs<;>simp at h1 h2;subst h1 h2;simp[eV,hd]
 |succ i ih=>
  intro k os rs h1 h2
  cases os with
  |nil=>simp at h1
  |cons o' os=>cases rs with
   |nil=>simp at h2
   |cons r' rs=>
    simp at h1 h2
    have:=ih (k:=k+1) h1 h2
    rw[show k+(i+1)=k+1+i from by omega]
    simp only[eV]
    split
    .exact List.mem_cons_of_mem _ this
    exact this
def ur (Γ:Env):List Oper->List Rec->Env
 |o::os,r::rs=>ur (l6 o.dst r.x Γ) os rs
 |_,_=>Γ
def JW:∀(os:List Oper) (rs:List Rec) (k:Nat) (Γ:Env),ur Γ os rs=eT (eV k os rs).reverse++Γ
 |[],_,_,_=>by simp[ur,eV,eT]
 |_::_,[],_,_=>by simp[ur,eV,eT]
 |o::os,r::rs,k,Γ=>by
  rw[ur,JW os rs (k+1)];simp only[eV];cases o.dst with
  |none=>rfl
  |some d=>simp[eT,l6]
def yF (H:List (EA->Own)):List Rec->List (EA->Own)
 |r::rs=>yF (lj H r.u) rs
 |[]=>H
def JX:∀(rs:List Rec) (i:Nat) (H:List (EA->Own)),yF H rs=gH (λ_=>true) i rs 0 H
 |[],i,H=>by
  apply List.ext_getElem?;intro j;rw[nu];show H[j]?=_;cases H[j]?<;>rfl
 |r::rs,i,H=>by rw[yF,JX rs (i+1),JT rfl]
def uq.at {P:Program} {n:Nat} {ops:Array Oper} {Γ0:Env}:∀(os:List Oper) (rs:List Rec) (k:Nat) (H:List (EA->Own)) (done:List nb),uq P n ops (eT done++Γ0) H os rs->(∀e∈done,e.1<k)->
 os.length=rs.length/\(∀(i:Nat) (r:Rec) (u:nr),rs[i]?=some r->r.u=some u->u.fit)/\∀(i:Nat) (o:Oper) (r:Rec),os[i]?=some o->rs[i]?=some r->
  Bd P n ops (gH (λj=>decide (j<k+i)) k rs 0 H) (lj (gH (λj=>decide (j<k+i)) k rs 0 H) r.u) r.T ((eT (((eV k os rs).reverse++done).filter λe=>decide (e.1<k+i))++Γ0).only (o.looksAt ops)) o r.x
 |[],[],_,_,_,_,_=>⟨rfl,λi r u h=>by simp at h,λi o r h=>by simp at h⟩
 |o::os,r::rs,k,H,done,h,hd=>by
  obtain⟨h1,hf,h2⟩:=h;have e0:l6 o.dst r.x (eT done++Γ0)=eT (match o.dst with|some d=>(k,d,r.x)::done|none=>done)++Γ0:=by
   cases o.dst with
   |none=>rfl
   |some d=>simp[l6,eT]
  rw[e0] at h2;have ih:=uq.at os rs (k+1) (lj H r.u) _ h2 (λe he=>by
   split at he
   .rcases List.mem_cons.1 he with rfl|he
    .simp
    have:=hd e he;omega
   have:=hd e he;omega)
  have yn:(eV k (o::os) (r::rs)).reverse++done=(eV (k+1) os rs).reverse++(match o.dst with|some d=>(k,d,r.x)::done|none=>done):=by
   simp only[eV];cases o.dst with
   |none=>rfl
   |some d=>simp
  refine⟨by simp[ih.1],λi r' u g1 g2=>?_,λi o' r' ho hr=>?_⟩
  .cases i with
   |zero=>simp at g1;subst g1;exact hf u g2
   |succ i=>exact ih.2.1 i r' u (by simpa using g1) g2
  rw[yn];cases i with
  |zero=>
   simp at ho hr;subst ho hr
   have jK:((eV (k+1) os rs).reverse++(match o.dst with|some d=>(k,d,r.x)::done|none=>done)).filter (λe=>decide (e.1<k+0))=done:=by
    rw[List.filter_append];have e1:(eV (k+1) os rs).reverse.filter (λe=>decide (e.1<k+0))=[]:=by
     rw[List.filter_eq_nil_iff];intro e he;have:=(Eu (k+1) os rs).2 e (List.mem_reverse.1 he);simp;omega
    have e2:done.filter (λe=>decide (e.1<k+0))=done:=by
     rw[List.filter_eq_self];intro e he;simpa using hd e he
    rw[e1];split
    .rw[List.filter_cons];simp only[Nat.add_zero,Nat.lt_irrefl,decide_false,Bool.false_eq_true,if_false,List.nil_append];simpa using e2
    simpa using e2
   rw[jK,JU λj hj=>by simp;omega]
   exact h1
  |succ i=>
   have:=ih.2.2 i o' r' (by simpa using ho) (by simpa using hr)
   rw[JT ff] at this
   rw[show k+(i+1)=k+1+i from by omega]
   exact this
 |[],_::_,_,_,_,h,_=>h.elim
 |_::_,[],_,_,_,h,_=>h.elim
abbrev Meta:=List (List Nat×Option (Nat×List Nat))
def rp:Nat->Meta->Meta
 |0,l=>l
 |n+1,l=>([],none)::rp n l
def Rec.lI (r:Rec):List Nat×Option (Nat×List Nat):=(r.T,r.u.map λu=>(u.k,u.aK))
def o7 (l:List Oper) (ms:Meta):Bool:=
 let C:=iM [] l
 let before:=λ(i j:Nat)=>if j<i then(C.getD i []).contains j else(C.getD j []).contains i
 (l.zipIdx.all λ(o,i)=>(o.after.toList.all λe=>!Region.binds .any e||Nat.blt e.on i)&&
   (slotsOf l.toArray o).all λt=>l.zipIdx.all λ(o',j)=>Nat.beq i j||!(o'.dst==some t)||before i j)&&
 (ms.zipIdx.all λ(m,i)=>(m.1.all λk=>ms.zipIdx.all λ(m',j)=>Nat.beq i j||(match m'.2 with|some u=>!Nat.beq u.1 k|none=>true)||before i j)&&
   (match m.2 with|some u=>m.1.contains u.1|none=>true))&&
 (l.zipIdx.all λ(o,i)=>match o.dst with|none=>true|some d=>ms.zipIdx.all λ(m,j)=>Nat.beq i j||(match m.2 with|some u=>!u.2.contains d|none=>true)||(C.getD j []).contains i)
def Ew {i j:Nat} (h:i≠j):Nat.beq i j=false:=by
 cases hb:Nat.beq i j with
 |false=>rfl
 |true=>exact absurd (Nat.eq_of_beq_eq_true hb) h
def Rm {l:List Oper} {ms:Meta} (h:o7 l ms=true) {i:Nat} {o:Oper} (ho:l[i]?=some o):∀e∈o.after.toList,Region.binds .any e=true->e.on<i:=λe he hb=>by
 simp only[o7,List.all_eq_true,Bool.and_eq_true] at h;have hm:(o,i)∈l.zipIdx:=by rw[List.mem_zipIdx_iff_getElem?];exact ho
 have:=(h.1.1 _ hm).1 e he;rw[hb] at this;simpa using this
def Rn {l:List Oper} {ms:Meta} (h:o7 l ms=true) {i:Nat} {o:Oper} (ho:l[i]?=some o):
 ∀t∈slotsOf l.toArray o,∀j o',l[j]?=some o'->i≠j->o'.dst=some t->if j<i then j∈(iM [] l).getD i [] else i∈(iM [] l).getD j []:=λt ht j o' j6 bH hd=>by
 simp only[o7,List.all_eq_true,Bool.and_eq_true] at h;have hm:(o,i)∈l.zipIdx:=by rw[List.mem_zipIdx_iff_getElem?];exact ho
 have jt:(o',j)∈l.zipIdx:=by rw[List.mem_zipIdx_iff_getElem?];exact j6
 have:=(h.1.1 _ hm).2 t ht _ jt;simp only[Ew bH,hd,Bool.false_or] at this;have h4:(!(some t==some t))=false:=by simp
 rw[h4,Bool.false_or] at this;split
 .rename_i bW;rw[if_pos bW] at this;simpa using this
 rename_i bW;rw[if_neg bW] at this;simpa using this
def Ro {l:List Oper} {rs:List Rec} (h:o7 l (rs.map Rec.lI)=true) {i:Nat} {r:Rec} (hr:rs[i]?=some r):
 (∀k∈r.T,∀j r' u,rs[j]?=some r'->i≠j->r'.u=some u->u.k=k->if j<i then j∈(iM [] l).getD i [] else i∈(iM [] l).getD j [])/\∀u,r.u=some u->u.k∈r.T:=by
 simp only[o7,List.all_eq_true,Bool.and_eq_true] at h;have hm:(r.lI,i)∈(rs.map Rec.lI).zipIdx:=by rw[List.mem_zipIdx_iff_getElem?];simp[hr]
 obtain⟨h1,h2⟩:=h.1.2 _ hm;refine⟨λk hk j r' u Rp bH hu Rq=>?_,λu hu=>?_⟩
 .have jt:(r'.lI,j)∈(rs.map Rec.lI).zipIdx:=by rw[List.mem_zipIdx_iff_getElem?];simp[Rp]
  have:=h1 k hk _ jt;have hb:Nat.beq u.k k=true:=by rw[Rq];exact Nat.beq_refl k
  simp only[Ew bH,Rec.lI,hu,Option.map_some,hb,Bool.not_true,Bool.false_or] at this;split
  .rename_i bW;rw[if_pos bW] at this;simpa using this
  rename_i bW;rw[if_neg bW] at this;simpa using this
 simp only[Rec.lI,hu,Option.map_some] at h2;simpa using h2
def Rr {l:List Oper} {rs:List Rec} (h:o7 l (rs.map Rec.lI)=true) {i d:Nat} {o:Oper} (ho:l[i]?=some o) (hd:o.dst=some d) {j:Nat} {r:Rec} {u:nr} (hr:rs[j]?=some r) (hu:r.u=some u) (bH:i≠j) (Be:d∈u.aK):
 i∈(iM [] l).getD j []:=by
 simp only[o7,List.all_eq_true,Bool.and_eq_true] at h;have hm:(o,i)∈l.zipIdx:=by rw[List.mem_zipIdx_iff_getElem?];exact ho
 have:=h.2 _ hm;simp only[hd,List.all_eq_true] at this;have jt:(r.lI,j)∈(rs.map Rec.lI).zipIdx:=by rw[List.mem_zipIdx_iff_getElem?];simp[hr]
 have:=this _ jt;simp only[Ew bH,Rec.lI,hu,Option.map_some,Bool.false_or,Bool.or_eq_true,Bool.not_eq_true'] at this;rcases this with h|h
 .have:u.aK.contains d=true:=by simpa using Be
  rw[this] at h;cases h
 simpa using h
section
variable {P:Program} {c:Ctx} {I:Im} {H:List Own} {Γ:Env} {a:Act} {w:World} {Q:Exit->Act->World->Prop}
def Rs {o:Oper} {K:Act->World->Prop} {Q':Exit->Act->World->Prop} (hq:∀e a w,e≠.normal->Q' e a w->Q e a w) (h:o.wp P a w K Q'):o.wp P a w (λa' w'=>(∃v,a'.tmps=(a.put o.dst v).tmps)/\K a' w') Q:=by
 unfold Oper.wp at h⊢;generalize (execOp a.eval o).run P w=r at h⊢;cases r with
 |ok n w'=>
  cases n with
  |enter f args=>
   refine Calls.mono h λe tU he=>?_
   cases e with
   |returned v=>exact⟨⟨v,rfl⟩,he⟩
   |panicked ch=>exact hq _ _ _ be he
   |outgrown=>exact let⟨a,w,h⟩:=he;⟨a,w,hq _ _ _ be h⟩
  |row row args=>exact Rows.mono h λv tU he=>⟨⟨v,rfl⟩,he⟩
  |value v=>exact⟨⟨v,rfl⟩,h⟩
  |skip=>exact⟨⟨undef,rfl⟩,h⟩
  |defer d=>exact⟨⟨undef,by cases o.dst<;>rfl⟩,h⟩
  |_=>exact h
 |halt x w'=>cases x<;>simp only[Oper.upon] at h⊢<;>first|exact h|exact hq _ _ _ be h
def JY {a:EA} {T:List Nat} {F:Nat->Own} {Hf:List (EA->Own)} {X:List Own} (hl:X.length=Hf.length) (h:∀j f x,Hf[j]?=some f->X[j]?=some x->x=bif T.contains j then f a else F j):dq T a F 0 Hf=X:=by
 apply List.ext_getElem?;intro j;rw[o6];cases hf:Hf[j]? with
 |none=>
  have:Hf.length<=j:=by simpa using hf
  rw[List.getElem?_eq_none om];rfl
 |some f=>
  have hj:j<Hf.length:=(List.getElem?_eq_some_iff.1 hf).1
  have hx:X[j]?=some X[j]:=by simp[hl,hj]
  rw[hx]
  simp only[Option.map_some,Nat.zero_add]
  rw[<-h j f _ hf hx]
def St.Rt (U:St c I H Γ a w):St ⟨c.W,I,c.n,c.F⟩ I H Γ a w:=
 ⟨⟨Im.le_refl I,λ_ _ _=>rfl,U.step.c9,U.step.below⟩,U.own,U.env,U.size,U.defers⟩
def vY (pre tail:List Oper) (ms:Meta):Bool:=
 o7 (pre++tail) (ms++tail.map λ_=>([],none))&&(List.range tail.length).all λi=>(List.range (pre.length+i)).all λj=>((iM [] (pre++tail)).getD (pre.length+i) []).contains j
def Bf {α:Type} {x y:List α} {i:Nat} {v:α} (h:x[i]?=some v):(x++y)[i]?=some v:=by
 rw[List.getElem?_append_left (List.getElem?_eq_some_iff.1 h).1];exact h
def Ru {pre tail:List Oper} {rs:List Rec} {H0:List Own} (Ex:vY pre tail (rs.map Rec.lI)=true) (hlen:pre.length=rs.length) (qc:(pre.all λo=>match o.dst with|some d=>Nat.blt d c.n|none=>true)=true)
 (il:∀(i:Nat) (r:Rec) (u:nr),rs[i]?=some r->r.u=some u->u.fit)
 (run:∀(i:Nat) (o:Oper) (r:Rec),pre[i]?=some o->rs[i]?=some r->Bd P c.n (pre++tail).toArray (gH (λj=>decide (j<i)) 0 rs 0 (H0.map λo _=>o)) (lj (gH (λj=>decide (j<i)) 0 rs 0 (H0.map λo _=>o)) r.u) r.T ((eT ((eV 0 pre rs).reverse.filter λe=>decide (e.1<i))++Γ).only (o.looksAt (pre++tail).toArray)) o r.x)
 (k:∀γ I' a' w',St c I' (ku (ea a' γ) (gH (λ_=>true) 0 rs 0 (H0.map λo _=>o))) (eT (eV 0 pre rs).reverse++Γ) a' w'->wpList P (pre++tail).toArray Q tail a' w'):
 ∀(fuel:Nat) (listed:Array Bool) (γ:Nat->Own) (I:Im) (a:Act) (w:World),listed.size=(pre++tail).length->((List.range (pre++tail).length).filter λi=>!listed.getD i false).length<=fuel->
  (∀i,i<(pre++tail).length->listed.getD i false=true->i<pre.length)->
  (∀(i:Nat) (o:Oper),(pre++tail)[i]?=some o->listed.getD i false=true->∀e∈o.after.toList,Region.binds .any e=true->listed.getD e.on false=true)->
  St c I (ku (ea a γ) (gH (λi=>listed.getD i false) 0 rs 0 (H0.map λo _=>o))) (eT ((eV 0 pre rs).reverse.filter λe=>listed.getD e.1 false)++Γ) a w->wpAny P .any (pre++tail).toArray Q fuel listed a w:=by
 simp only[vY,Bool.and_eq_true,List.all_eq_true] at Ex;have fB:o7 (pre++tail) ((rs++tail.map λ_=>(⟨AV.any,[],none⟩:Rec)).map Rec.lI)=true:=by
  rw[List.map_append,List.map_map];exact Ex.1
 have hT:∀{i j:Nat},pre.length<=i->i<(pre++tail).length->j<i->j∈(iM [] (pre++tail)).getD i []:=λ{i j} hi iD hj=>by
  have:=Ex.2 (i-pre.length) (by simp at iD⊢;omega) j ff;rw[show pre.length+(i-pre.length)=i from by omega] at this;simpa using this
 have hE:∀{i:Nat} {o:Oper},(pre++tail)[i]?=some o->∀e∈o.after.toList,Region.binds .any e=true->e.on<i:=λho=>Rm fB ho;have hL:(eV 0 pre rs).reverse.Pairwise (λe f=>f.1<e.1):=by
  rw[List.pairwise_reverse];exact(Eu 0 pre rs).1
 have p8:∀e∈(eV 0 pre rs).reverse,∃o',pre[e.1]?=some o'/\o'.dst=some e.2.1:=λe he=>by
  obtain⟨j,o',r',g1,_,g3,g4,_⟩:=JV (List.mem_reverse.1 he);exact⟨o',by rw[g3,Nat.zero_add];exact g1,g4⟩
 have JZ:∀(listed:Array Bool) (γ:Nat->Own) (I:Im) (a:Act) (w:World),(∀i,i<pre.length->listed.getD i false=true)->
  St c I (ku (ea a γ) (gH (λi=>listed.getD i false) 0 rs 0 (H0.map λo _=>o))) (eT ((eV 0 pre rs).reverse.filter λe=>listed.getD e.1 false)++Γ) a w->wpList P (pre++tail).toArray Q tail a w:=λlisted γ I a w aT U=>by
  refine k γ I a w ?_;have e1:(eV 0 pre rs).reverse.filter (λe=>listed.getD e.1 false)=(eV 0 pre rs).reverse:=by
   rw[List.filter_eq_self];intro e he;obtain⟨o',h1,_⟩:=p8 e he;exact aT e.1 (List.getElem?_eq_some_iff.1 h1).1
  have e2:gH (λi=>listed.getD i false) 0 rs 0 (H0.map λo _=>o)=gH (λ_=>true) 0 rs 0 (H0.map λo _=>o):=by
   apply List.ext_getElem?;intro j;rw[nu,nu];cases(H0.map λ(o:Own) (_:EA)=>o)[j]? with
   |none=>rfl
   |some f=>
    simp only[Option.map_some]
    rw[yE (S:=λi=>listed.getD i false) (S':=λ_=>true) 0 rs f λj r u h1 _ _=>by
     rw[Nat.zero_add];exact aT j (by rw[hlen];exact(List.getElem?_eq_some_iff.1 h1).1)]
  rw[e1,e2] at U;exact U
 intro fuel;induction fuel with
 |zero=>
  intro listed γ I a w cJ hf np dV U
  have h0:∀i,i<(pre++tail).length->listed.getD i false=true:=λi hi=>by
   have:(List.range (pre++tail).length).filter (λi=>!listed.getD i false)=[]:=List.eq_nil_of_length_eq_zero om;rw[List.filter_eq_nil_iff] at this;simpa using this i (by simpa using hi)
  have A8:tail=[]:=by
   rcases tail with _|⟨t,ts⟩
   .rfl
   have:=np pre.length be (h0 pre.length be);omega
  have hw:=JZ listed γ I a w (λi hi=>h0 i ff) U
  exact A7 hE hT 0 (pre++tail).length listed 0 a w om be om om cJ (λi hi=>⟨λ_=>hi,λ_=>h0 i hi⟩) (by subst A8;simpa using hw)
 |succ fuel ih=>
  intro listed γ I a w cJ hf np dV U
  by_cases aT:∀i,i<pre.length->listed.getD i false=true
  .refine A7 hE hT _ pre.length listed (fuel+1) a w rfl om be (JG hf np aT) cJ (λi hi=>⟨np i hi,aT i⟩) ?_
   rw[List.drop_left]
   exact JZ listed γ I a w aT U
  have yB:∃i0,i0<pre.length/\listed.getD i0 false=false:=by
   refine Classical.byContradiction λhn=>aT λi hi=>?_;cases hb:listed.getD i false with
   |true=>rfl
   |false=>exact absurd ⟨i,hi,hb⟩ hn
  obtain⟨i0,yC,rb⟩:=yB
  refine⟨λhr=>?_,λi hi=>?_⟩
  .exfalso
   have:∀i,i<(pre++tail).length->listed.getD i false=true:=λi=>by
    induction i using Nat.strongRecOn with
    |_ i yk=>
     intro hi
     cases hl:listed.getD i false with
     |true=>rfl
     |false=>
      have sN:i∈Region.ready .any (pre++tail).toArray listed:=by
       refine mem_ready.2 ⟨by rw[vT om];exact hl,(pre++tail)[i],by simp[hi],λe he hb=>?_⟩;have bW:=hE (i:=i) (o:=(pre++tail)[i]) (by simp[hi]) e (by simpa using he) hb;exact yk e.on bW om
      rw[hr] at sN;cases sN
   rw[this i0 ff] at rb;cases rb
  obtain⟨h1,o,h2,h3⟩:=mem_ready.1 hi
  have bW:i<(pre++tail).length:=by have:=(Array.getElem?_eq_some_iff.1 h2).1;simpa using this
  have vZ:(pre++tail)[i]?=some o:=by simpa using h2
  rw[vT om] at h1
  have aG:=Ek cJ dV vZ (λe he hb=>h3 e (by simpa using he) hb)
  have jN:i<pre.length:=by
   refine Classical.byContradiction λhn=>?_;have:=aG i0 om (hT om bW om);rw[this] at rb;cases rb
  have iP:∀j,(listed.setIfInBounds i true).getD j false=if j=i then true else listed.getD j false:=λj=>AS om false
  have Em:=AQ (S:=λj=>listed.getD j false) (pre++tail) [] (λi k hk=>by simp at hk) (λi o ho hi e he hb=>dV i o ho (by simpa using hi) e he hb)
  have En:∀(i':Nat) (o':Oper),(pre++tail)[i']?=some o'->(listed.setIfInBounds i true).getD i' false=true->∀e∈o'.after.toList,Region.binds .any e=true->(listed.setIfInBounds i true).getD e.on false=true:=λi' o' j6 iD e he hb=>by
   rw[iP] at iD⊢;split
   .rfl
   split at iD
   .rename_i yA;subst yA;rw[vZ] at j6;cases j6;exact h3 e (by simpa using he) hb
   exact dV i' o' j6 iD e he hb
  have uk:∀j,i∈(iM [] (pre++tail)).getD j []->listed.getD j false=false:=λj hj=>by
   cases hb:listed.getD j false with
   |false=>rfl
   |true=>rw[Em j i hj hb] at h1;cases h1
  have Er:∀j,j<(pre++tail).length->(listed.setIfInBounds i true).getD j false=true->j<pre.length:=λj hj hb=>by
   rw[iP] at hb;split at hb
   .rename_i e;subst e;exact jN
   exact np j hj hb
  have jM:pre[i]?=some o:=by rw[List.getElem?_append_left jN] at vZ;exact vZ
  have j4:i<rs.length:=by omega
  have v3:rs[i]?=some rs[i]:=by simp[j4]
  generalize rs[i]=r at v3
  obtain⟨Rv,Rw⟩:=Ro fB (Bf v3)
  have vG:∀k∈r.T,∀j r' u,rs[j]?=some r'->i≠j->r'.u=some u->u.k=k->if j<i then j∈(iM [] (pre++tail)).getD i [] else i∈(iM [] (pre++tail)).getD j []:=λk hk j r' u g=>Rv k hk j r' u (Bf g)
  have iN:=run i o r jM v3
  have Ey:∀k∈r.T,∀f,cellAt (λj=>decide (j<i)) k 0 rs f=cellAt (λj=>listed.getD j false) k 0 rs f:=λk hk f=>yE 0 rs f λj r' u g1 g2 g3=>by
   rw[Nat.zero_add];by_cases j3:i=j
   .subst j3;rw[h1];simp
   have:=vG k hk j r' u g1 j3 g2 g3;split at this
   .rename_i nq;rw[aG j (λe=>j3 e.symm) this];simpa using nq
   rename_i nq;rw[uk j this];simpa using nq
  have Rx:=Rn fB vZ
  have A9:∀t∈slotsOf (pre++tail).toArray o,∀j o',pre[j]?=some o'->i≠j->o'.dst=some t->if j<i then j∈(iM [] (pre++tail)).getD i [] else i∈(iM [] (pre++tail)).getD j []:=λt ht j o' g=>Rx t ht j o' (Bf g)
  have Eo:cW I a ((eT ((eV 0 pre rs).reverse.filter λe=>decide (e.1<i))++Γ).only (o.looksAt (pre++tail).toArray)):=λt y e=>by
   obtain⟨g1,g2⟩:=Env.DR e;have ht:t∈slotsOf (pre++tail).toArray o:=by
    unfold slotsOf;rw[List.mem_append];exact .inr (by simpa using g2)
   rw[ym (q:=λe=>listed.getD e.1 false) _ (λe he o4=>?_)] at g1
   .exact U.env t y g1
   obtain⟨o',k1,k2⟩:=p8 e he;by_cases um:e.1=i
   .rw[um,h1];simp
   have:=A9 t ht e.1 o' k1 (λh=>um h.symm) (by rw[k2,o4]);split at this
   .rename_i nq;rw[aG e.1 um this];simpa using nq
   rename_i nq;rw[uk e.1 this];simpa using nq
  have Ep:((List.range (pre++tail).length).filter λj=>!(listed.setIfInBounds i true).getD j false).length<=fuel:=by
   have:=filter_lt (l:=List.range (pre++tail).length) (p:=λj=>!listed.getD j false) (q:=λj=>!(listed.setIfInBounds i true).getD j false) (i:=i) (by simpa using bW) (by simp only[h1];rfl) (by simp only[iP];simp) (λj hj=>by
    simp only[iP] at hj;split at hj
    .cases hj
    exact hj)
   omega
  let HS:List (EA->Own):=gH (λi=>listed.getD i false) 0 rs 0 (H0.map λo _=>o)
  let F:Nat->Own:=λk=>match HS[k]? with|some f=>f (ea a γ)|none=>Own.gone
  have Ry:dq r.T (ea a γ) F 0 (gH (λj=>decide (j<i)) 0 rs 0 (H0.map λo _=>o))=ku (ea a γ) HS:=JY (by simp[ku,HS,Bc]) λj f x g1 g2=>by
   rw[nu] at g1;have yG:(ku (ea a γ) HS)[j]?=some x:=g2;simp only[ku,List.getElem?_map] at yG;have g3:HS[j]?=((H0.map λ(o:Own) (_:EA)=>o)[j]?).map (cellAt (λi=>listed.getD i false) (0+j) 0 rs):=nu 0 _ j;cases h0:(H0.map λ(o:Own) (_:EA)=>o)[j]? with
   |none=>rw[h0] at g1;simp at g1
   |some f0=>
    rw[h0] at g1 g3
    simp only[Option.map_some,Option.some.injEq,Nat.zero_add] at g1 g3
    rw[g3] at yG
    simp only[Option.map_some,Option.some.injEq] at yG
    cases hT:r.T.contains j with
    |true=>
     simp only[cond_true]
     rw[<-g1,<-yG,Ey j (by simpa using hT)]
    |false=>
     simp only[cond_false,F,g3,<-yG]
  have Rz:St ⟨c.W,I,c.n,c.F⟩ I (dq r.T (ea a γ) F 0 (gH (λj=>decide (j<i)) 0 rs 0 (H0.map λo _=>o))) ((eT ((eV 0 pre rs).reverse.filter λe=>decide (e.1<i))++Γ).only (o.looksAt (pre++tail).toArray)) a w:=by
   rw[Ry];exact⟨U.Rt.step,U.own,Eo,U.size,U.defers⟩
  have n2:∀γ',(∀t,o.dst≠some t->γ' t=γ t)->∀I' a' w',(∃v,a'.tmps=(a.put o.dst v).tmps)->St ⟨c.W,I,c.n,c.F⟩ I' (dq r.T (ea a' γ') F 0 (lj (gH (λj=>decide (j<i)) 0 rs 0 (H0.map λo _=>o)) r.u)) (l6 o.dst r.x ((eT ((eV 0 pre rs).reverse.filter λe=>decide (e.1<i))++Γ).only (o.looksAt (pre++tail).toArray))) a' w'->
   wpAny P .any (pre++tail).toArray Q fuel (listed.setIfInBounds i true) a' w':=λγ' hγ I' a' w' ⟨v,hv⟩ h'=>by
   refine ih (listed.setIfInBounds i true) γ' I' a' w' (by simpa using cJ) Ep Er En ?_;have yH:∀t,o.dst≠some t->a'.tmps.getD t undef=a.tmps.getD t undef:=λt ht=>by
    rw[hv];cases hd:o.dst with
    |none=>rfl
    |some d=>
     have bH:d≠t:=λe=>ht (by rw[hd,e])
     simp[Act.put,bH]
   have eG:dq r.T (ea a' γ') F 0 (lj (gH (λj=>decide (j<i)) 0 rs 0 (H0.map λo _=>o)) r.u)=ku (ea a' γ') (gH (λj=>(listed.setIfInBounds i true).getD j false) 0 rs 0 (H0.map λo _=>o)):=JY (by cases r.u<;>simp[ku,Bc,lj]) λj f x g1 g2=>by
    simp only[ku,List.getElem?_map] at g2;rw[nu] at g2;cases h0:(H0.map λ(o:Own) (_:EA)=>o)[j]? with
    |none=>rw[h0] at g2;simp at g2
    |some f0=>
     rw[h0] at g2
     simp only[Option.map_some,Option.some.injEq,Nat.zero_add] at g2
     have RA:∀a a',f0 a=f0 a':=by
      rw[List.getElem?_map] at h0;cases hh:H0[j]? with
      |none=>rw[hh] at h0;simp at h0
      |some o0=>rw[hh] at h0;simp at h0;subst h0;intro _ _;rfl
     have p5:∀(Bg:∀u,r.u=some u->u.k≠j),cellAt (λj=>(listed.setIfInBounds i true).getD j false) j 0 rs f0=cellAt (λj=>listed.getD j false) j 0 rs f0:=λBg=>yE 0 rs f0 λj' r' u g3 g4 g5=>by
      rw[Nat.zero_add,iP,if_neg];intro e;subst e;rw[v3] at g3;cases g3;exact Bg u g4 g5
     cases hT:r.T.contains j with
     |true=>
      simp only[cond_true]
      rw[<-g2]
      have Ez:j∈r.T:=by simpa using hT
      cases hu:r.u with
      |none=>
       rw[hu] at g1
       simp only[lj] at g1
       rw[nu,h0] at g1
       simp only[Option.map_some,Option.some.injEq,Nat.zero_add] at g1
       rw[p5 (λu e=>by rw[hu] at e;cases e),<-Ey j Ez,g1]
      |some u=>
       rw[hu] at g1
       simp only[lj] at g1
       by_cases hk:u.k=j
       .subst hk
        have nq:u.k<(gH (λj=>decide (j<i)) 0 rs 0 (H0.map λo _=>o)).length:=by
         rw[Bc];exact(List.getElem?_eq_some_iff.1 h0).1
        rw[List.getElem?_set_self nq] at g1
        cases g1
        rw[JR 0 rs f0 i r u v3 hu rfl (by rw[Nat.zero_add,iP];simp) λj' r' u' g3 g4 g5 g6=>?_]
        have:=vG u.k Ez j' r' u' g3 om g4 g5
        rw[if_neg om] at this
        rw[Nat.zero_add,iP,if_neg om]
        exact uk j' this
       rw[List.getElem?_set_ne hk,nu,h0] at g1
       simp only[Option.map_some,Option.some.injEq,Nat.zero_add] at g1
       rw[p5 (λu' e=>by rw[hu] at e;cases e;exact hk),<-Ey j Ez,g1]
     |false=>
      simp only[cond_false]
      rw[<-g2]
      have Bg:∀u,r.u=some u->u.k≠j:=λu hu e=>by
       have:=Rw u hu;rw[e] at this;have:r.T.contains j=true:=by simpa using this
       rw[hT] at this;cases this
      rw[p5 Bg]
      have g3:HS[j]?=some (cellAt (λi=>listed.getD i false) j 0 rs f0):=by
       have:=nu (S:=λi=>listed.getD i false) (i:=0) (rs:=rs) 0 (H0.map λ(o:Own) (_:EA)=>o) j;rw[h0,Nat.zero_add] at this;exact this
      simp only[F,g3]
      refine(JS (a:=ea a' γ') (a':=ea a γ) 0 rs f0 (RA _ _) λj' r' u' g4 g5 g6=>il j' r' u' g4 g5 _ _ λd hd=>(λhn=>⟨yH d hn,hγ d hn⟩) λe=>?_)
      rw[Nat.zero_add] at g6
      by_cases j3:i=j'
      .subst j3;have yI:listed.getD i false=true:=g6;rw[h1] at yI;cases yI
      have yI:listed.getD j' false=true:=g6
      rw[uk j' (Rr fB vZ e (Bf g4) g5 j3 hd)] at yI;cases yI
   rw[eG] at h';have q9:eR c.F c.I c.W I' w':=⟨Im.le_trans U.step.le h'.step.le,λb hb hf=>(h'.step.fS b hb hf).trans (U.step.fS b hb hf),h'.step.c9,h'.step.below⟩;refine⟨q9,h'.own,?_,h'.size,h'.defers⟩;intro t y e;by_cases rf:o.dst=some t
   .have sL:(i,t,r.x)∈(eV 0 pre rs).reverse:=by
     rw[List.mem_reverse];have:=Rl rf (k:=0) jM v3;rwa[Nat.zero_add] at this
    rw[DS (i:=i) (x:=r.x) _ hL sL (by simp only[iP];simp) (λe he hp o4=>?_)] at e
    .cases e;exact h'.env t r.x (by rw[rf];simp[l6,Env.get])
    obtain⟨o',k1,k2⟩:=p8 e he;by_cases hle:e.1<=i
    .exact hle
    have bH:i≠e.1:=by omega
    have:=A9 t (by unfold slotsOf;rw[List.mem_append];exact .inl (by simp[rf])) e.1 o' k1 bH (by rw[k2,o4]);rw[if_neg om] at this;have RB:¬e.1=i:=λh=>bH h.symm;rw[iP,if_neg RB,uk e.1 this] at hp;cases hp
   rw[ym (q:=λe=>listed.getD e.1 false) _ (λe he o4=>?_)] at e
   .have:=U.env t y e;rw[yH t rf];exact y.up _ _ _ h'.step.le this
   obtain⟨o',k1,k2⟩:=p8 e he;have bH:e.1≠i:=λh=>by
    rw[h,jM] at k1;cases k1;exact rf (by rw[k2,o4])
   simp only[iP,if_neg bH]
  let Q':Exit->Act->World->Prop:=λe a' w'=>match e with
   |.normal=>∃γ',(∀t,o.dst≠some t->γ' t=γ t)/\∃I',St ⟨c.W,I,c.n,c.F⟩ I' (dq r.T (ea a' γ') F 0 (lj (gH (λj=>decide (j<i)) 0 rs 0 (H0.map λo _=>o)) r.u)) (l6 o.dst r.x ((eT ((eV 0 pre rs).reverse.filter λe=>decide (e.1<i))++Γ).only (o.looksAt (pre++tail).toArray))) a' w'
   |e=>Q e a' w'
  have hQ:∀e a w,e≠.normal->Q' e a w->Q e a w:=λe a w hn h=>by
   cases e<;>first|exact absurd rfl hn|exact h
  have mH:=iN F (c.W,c.F) I I γ a w Q' Rz λγ' hγ I' a' w' h'=>⟨γ',hγ,I',h'⟩
  unfold wpOp
  simp only[h2]
  unfold wpList at mH
  by_cases hw:Region.wanted o (yielded (pre++tail).toArray a.tmps)=true
  .rw[if_pos hw] at mH⊢
   rcases mH with mH|⟨h5,h6⟩
   .exact .inl (Oper.wp_mono (λa' w' h=>h) (Oper.wp_mono (λa' w' ⟨hv,γ',hγ,I',h'⟩=>n2 γ' hγ I' a' w' hv h') (Rs hQ mH)))
   exact .inr ⟨h5,let⟨a,w,h⟩:=h6;⟨a,w,hQ _ a w be h⟩⟩
  rw[if_neg hw] at mH⊢
  obtain⟨γ',hγ,I',h'⟩:=mH
  exact n2 γ' hγ I' _ w ⟨undef,rfl⟩ h'
def aP (P:Program) (c:Ctx) (ops:Array Oper) (Q:Exit->Act->World->Prop) (Γ:Env) (H:List (EA->Own)) (os:List Oper) (ms:Meta):Prop:=
 ∃rs,rs.map Rec.lI=ms/\uq P c.n ops Γ H os rs/\∀γ I' a' w',St c I' (ku (ea a' γ) (yF H rs)) (ur Γ os rs) a' w'->Q .normal a' w'
def aP.rh {ops:Array Oper} {Hf:List (EA->Own)} (k:∀γ I' a' w',St c I' (ku (ea a' γ) Hf) Γ a' w'->Q .normal a' w'):aP P c ops Q Γ Hf [] []:=⟨[],rfl,trivial,k⟩
def aP.nil {ops:Array Oper} {Hf:List (EA->Own)} (k:∀I' a' w',St c I' (ku (ea a' λ_=>Own.gone) Hf) Γ a' w'->Q .normal a' w') (hi:∀t γ,ku ⟨t,γ⟩ Hf=ku ⟨t,λ_=>Own.gone⟩ Hf:=by exactλ_ _=>rfl):aP P c ops Q Γ Hf [] []:=.rh λγ I' a' w' U=>k I' a' w' (hi a'.tmps γ▸U)
def aP.cons {ops:Array Oper} {Hf:List (EA->Own)} {o:Oper} {os:List Oper} {x:AV} {T:List Nat} {u:Option nr} {ms:Meta} (hu:∀v,u=some v->v.fit) (h:Bd P c.n ops Hf (lj Hf u) T (Γ.only (o.looksAt ops)) o x) (k:aP P c ops Q (l6 o.dst x Γ) (lj Hf u) os ms):
 aP P c ops Q Γ Hf (o::os) ((T,u.map λu=>(u.k,u.aK))::ms):=
 let⟨rs,h1,h2,h3⟩:=k;⟨⟨x,T,u⟩::rs,by simp[Rec.lI,h1],⟨h,hu,h2⟩,h3⟩
def St.EB {id:Nat} {pre tail:List Oper} {rs:List Rec} (U:St c I H Γ a w) (hm:P.follows .mixedOrders=true) (fB:vY pre tail (rs.map Rec.lI)=true) (hd:(pre.all λo=>match o.dst with|some d=>Nat.blt d c.n|none=>true)=true)
 (run:uq P c.n (pre++tail).toArray Γ (H.map λo _=>o) pre rs) (k:∀γ I' a' w',St c I' (ku (ea a' γ) (yF (H.map λo _=>o) rs)) (ur Γ pre rs) a' w'->wpList P (pre++tail).toArray Q tail a' w'):(Code.region id (pre++tail).toArray true).wp P Q a w:=by
 refine wp_region_any hm ?_;obtain⟨hlen,il,iN⟩:=uq.at (Γ0:=Γ) pre rs 0 _ [] (by simpa[eT] using run) (λe he=>by simp at he);have hf:∀i:Nat,(Array.replicate (pre++tail).length false).getD i false=false:=λi=>by
  rw[Array.getD_eq_getD_getElem?,Array.getElem?_replicate];split<;>rfl
 have:=Ru (P:=P) (c:=c) (H0:=H) (Γ:=Γ) (Q:=Q) fB hlen hd il (λi o r ho hr=>by simpa using iN i o r ho hr) (λγ I' a' w' h=>by
  rw[<-JW,<-JX] at h;exact k γ I' a' w' h) (pre++tail).length (Array.replicate (pre++tail).length false) (λ_=>Own.gone) I a {w with drawn:=w.drawn+1} be
  (by simpa using List.length_filter_le _ (List.range (pre++tail).length)) (λi hi h=>by rw[hf] at h;cases h) (λi o ho hi=>by rw[hf] at hi;cases hi) (by
    have he:(eV 0 pre rs).reverse.filter (λe=>(Array.replicate (pre++tail).length false).getD e.1 false)=[]:=by
     rw[List.filter_eq_nil_iff];intro e _;rw[hf];simp
    have hh:ku (ea a λ_=>Own.gone) (gH (λi=>(Array.replicate (pre++tail).length false).getD i false) 0 rs 0 (H.map λo _=>o))=H:=by
     rw[JU λj _=>hf j];simp[ku,Function.comp_def]
    rw[he,hh];exact⟨⟨U.step.le,U.step.fS,U.step.c9,U.step.below.drew⟩,⟨λo ho=>⟨o.iB I I w _ (Im.le_refl I) (λ_ _=>rfl) (U.own.all o ho).1,(U.own.all o ho).2⟩,U.own.apart⟩,U.env,U.size,U.defers⟩)
 simpa using this
def St.fV {id:Nat} {l:List Oper} (ms:Meta) (U:St c I H Γ a w) (hm:P.follows .mixedOrders=true) (fB:o7 l ms=true) (hd:(l.all λo=>match o.dst with|some d=>Nat.blt d c.n|none=>true)=true)
 (run:aP P c l.toArray Q Γ (H.map λo _=>o) l ms):(Code.region id l.toArray true).wp P Q a w:=by
 obtain⟨rs,h0,run,k⟩:=run;subst h0;have:=U.EB (id:=id) (Q:=Q) (pre:=l) (tail:=[]) (rs:=rs) hm (by simpa[vY] using fB) hd (by rw[List.append_nil];exact run) λγ I' a' w' h=>wpList_nil (k γ I' a' w' h);rwa[List.append_nil] at this
end
def J0 {a a':EA} {F:Nat->Own} {Hf:List (EA->Own)}:dq [] a F 0 Hf=dq [] a' F 0 Hf:=by
 apply List.ext_getElem?;intro j;rw[o6,o6];rfl
def l7 {k:Nat} {a a':EA} {F:Nat->Own} {Hf:List (EA->Own)} {f:EA->Own} {O:Own} (h:O=f a'):(dq [k] a F 0 Hf).set k O=dq [k] a' F 0 (Hf.set k f):=by
 apply List.ext_getElem?;intro j;rw[o6,List.getElem?_set,List.getElem?_set,o6];have hl:(dq [k] a F 0 Hf).length=Hf.length:=by
  have:∀(n:Nat) (L:List (EA->Own)),(dq [k] a F n L).length=L.length:=by
   intro n L;induction L generalizing n with
   |nil=>rfl
   |cons x L ih=>simp[dq,ih]
  exact this 0 Hf
 rw[hl];by_cases hk:k=j
 .subst hk;by_cases bW:k<Hf.length
  .simp[bW,h]
  simp[bW]
 rw[if_neg hk,if_neg hk];have hc:([k].contains (0+j))=false:=by simp;omega
 rw[hc];rfl
section
variable {P:Program} {c:Ctx} {I:Im} {H:List Own} {Γ:Env} {a:Act} {w:World} {Q:Exit->Act->World->Prop} {ops:Array Oper} {Hf:List (EA->Own)} {os:List Oper} {ms:Meta}
def St.pass {H':List Own} (U:St c I H Γ a w) (h:H=H'):St c I H' Γ a w:=h▸U
def aP.op {o:Oper} {d:Nat} {x:AV} (hg:o.guard=none) (ho:o.dst=some d) (hd:Nat.blt d c.n=true) (h:∀F a,Ok P (dq [] a F 0 Hf) (Γ.only (o.looksAt ops)) true o x)
 (k:aP P c ops Q ((d,x)::Γ) Hf os ms):aP P c ops Q Γ Hf (o::os) (([],none)::ms):=
 aP.cons (u:=none) (x:=x) (λv e=>by cases e) (λF W0 I0 I γ a w Q U kk=>U.op hg ho hd (h F (ea a γ)) λI' a' w' bB=>kk γ (λ_ _=>rfl) I' a' w' (by rw[ho];exact bB.pass J0)) (by rw[ho];exact k)
def aP.AO {o:Oper} {d:Nat} {x:AV} {G:Bool} (hg:iC ops (Γ.only (o.looksAt ops)) o G) (ho:o.dst=some d) (hd:Nat.blt d c.n=true) (h:∀F a,Ok P (dq [] a F 0 Hf) (Γ.only (o.looksAt ops)) G o x)
 (k:aP P c ops Q ((d,.cond G x)::Γ) Hf os ms):aP P c ops Q Γ Hf (o::os) (([],none)::ms):=
 aP.cons (u:=none) (x:=.cond G x) (λv e=>by cases e) (λF W0 I0 I γ a w Q U kk=>U.AO hg ho hd (h F (ea a γ)) λI' a' w' bB=>kk γ (λ_ _=>rfl) I' a' w' (by rw[ho];exact bB.pass J0)) (by rw[ho];exact k)
def aP.RC {o:Oper} {d:Nat} {x:AV} (T:List Nat) (hc:∀F a a',dq T a F 0 Hf=dq T a' F 0 Hf) (hg:o.guard=none) (ho:o.dst=some d) (hd:Nat.blt d c.n=true) (h:∀F a,Ok P (dq T a F 0 Hf) (Γ.only (o.looksAt ops)) true o x)
 (k:aP P c ops Q ((d,x)::Γ) Hf os ms):aP P c ops Q Γ Hf (o::os) ((T,none)::ms):=
 aP.cons (u:=none) (x:=x) (λv e=>by cases e) (λF W0 I0 I γ a w Q U kk=>U.op hg ho hd (h F (ea a γ)) λI' a' w' bB=>kk γ (λ_ _=>rfl) I' a' w' (by rw[ho];exact bB.pass (hc F (ea a γ) (ea a' γ)))) (by rw[ho];exact k)
def aP.gZ {o:Oper} {x:AV} {O:Own} (k:Nat)
 (h:∀(F:Nat->Own) (W0:World×(Nat->Prop)) (I0 I:Im) (γ:Nat->Own) (a:Act) (w:World) (Q:Exit->Act->World->Prop),St ⟨W0.1,I0,c.n,W0.2⟩ I (dq [k] (ea a γ) F 0 Hf) (Γ.only (o.looksAt ops)) a w->
   (∀I' a' w',St ⟨W0.1,I0,c.n,W0.2⟩ I' ((dq [k] (ea a γ) F 0 Hf).set k O) (l6 o.dst x (Γ.only (o.looksAt ops))) a' w'->wpList P ops Q [] a' w')->wpList P ops Q [o] a w)
 (r:aP P c ops Q (l6 o.dst x Γ) (Hf.set k λ_=>O) os ms):aP P c ops Q Γ Hf (o::os) (([k],some (k,[]))::ms):=
 aP.cons (u:=some ⟨k,[],λ_=>O⟩) (x:=x) (λv e=>by cases e;intro _ _ _;rfl) (λF W0 I0 I γ a w Q U kk=>h F W0 I0 I γ a w Q U λI' a' w' bB=>kk γ (λ_ _=>rfl) I' a' w' (bB.pass (l7 rfl))) r
def St.sR {x:Own} (k:Nat) (U:St c I (H++[x]) Γ a w) (hk:H[k]?=some Own.gone):St c I (H.set k x) Γ a w:=by
 refine⟨U.step,⟨λo ho=>?_,?_⟩,U.env,U.size,U.defers⟩
 .rcases List.mem_or_eq_of_mem_set ho with ho|rfl
  .exact U.own.all o (List.mem_append_left _ ho)
  exact U.own.all _ be
 have hn:=U.own.apart;rw[List.pairwise_append] at hn;refine lV hn.1 λb hb=>.inr λy hy e=>?_;exact hn.2.2 y hy x be b e hb
def St.dH (U:St c I H Γ a w):St c I (H++[Own.gone]) Γ a w:=
 ⟨U.step,⟨λy hy=>by
  rcases List.mem_append.1 hy with hy|hy
  .exact U.own.all y hy
  .obtain rfl:=by simpa using hy
   exact⟨trivial,λb e=>by cases e⟩,
  by rw[List.pairwise_append];exact⟨U.own.apart,by simp,λy _ z hz b _ e=>by obtain rfl:z=_:=List.mem_singleton.1 hz;exact e.elim⟩⟩,U.env,U.size,U.defers⟩
def kv {k:Nat} {a:EA} {F:Nat->Own} {f:EA->Own} (h:Hf[k]?=some f):(dq [k] a F 0 Hf)[k]?=some (f a):=by
 rw[o6,h];simp
variable {T T' E ty:TypeId} {p:String} {af:Array Edge} {ag:Bool} {n m d:Nat} {zv:Value} {l lx:List AV} {z y:Operand}
def wa {a:Act} {b:Nat} (h:a.tmps.getD d undef=.pointer (some ⟨b,0,none⟩)):j8 T l (a.tmps.getD d undef)=Own.box b T l:=by rw[h];rfl
def sS {k:Nat} {g:Value->Own} (h:∀v v',v=v'->g v=g v'):∀v,(some (⟨k,[d],λa=>g (a.tmps.getD d undef)⟩:nr))=some v->v.fit:=λv e=>by
 cases e;intro a a' hh;exact h _ _ (hh d be).1
def aP.alloc (k:Nat) (hk:Hf[k]?=some λ_=>Own.gone) (hd:Nat.blt d c.n=true) (hT:Ty P T ag n m zv) (hz:∀I,bs I l zv.cells.toList)
 (r:aP P c ops Q ((d,AV.sP)::Γ) (Hf.set k λa=>j8 T l (a.tmps.getD d undef)) os ms):aP P c ops Q Γ Hf (⟨some d,.alloc T,ty,p,af,none⟩::os) (([k],some (k,[d]))::ms):=
 aP.cons (u:=some ⟨k,[d],λa=>j8 T l (a.tmps.getD d undef)⟩) (x:=AV.sP) (sS λv v' e=>e▸rfl) (λF W0 I0 I γ a w Q U kk=>U.alloc hd hT hz λb I' a' w' bB=>by
  have hv:a'.tmps.getD d undef=.pointer (some ⟨b,0,none⟩):=bB.env d (.val (.pointer (some ⟨b,0,none⟩))) (by simp[Env.get]);refine kk γ (λ_ _=>rfl) I' a' w' ?_;have h1:=(bB.sR k (kv hk)).pass (l7 (a':=ea a' γ) (f:=λa=>j8 T l (a.tmps.getD d undef)) (wa hv).symm);exact⟨h1.step,h1.own,λt x e=>by
   simp only[l6,Env.get] at e;cases hb:Nat.beq d t with
   |true=>
    rw[hb] at e;simp only[cond_true] at e;cases e
    obtain rfl:d=t:=Nat.eq_of_beq_eq_true hb
    exact⟨b,hv⟩
   |false=>rw[hb] at e;exact h1.env t x (by simp only[Env.get,hb];exact e),h1.size,h1.defers⟩) r
def aP.ri (k:Nat) (hk:Hf[k]?=some λa=>j8 T' l (a.tmps.getD d undef)) (hT:Ty P T true n m zv) (hy:Env.get d (Γ.only ((⟨none,.store T (.tmp d) z,ty,p,af,none⟩:Oper).looksAt ops))=some AV.sP)
 (hz:At (Γ.only ((⟨none,.store T (.tmp d) z,ty,p,af,none⟩:Oper).looksAt ops)) true z (.agg lx)) (hn:lx.length=n) (hl:l.length=n)
 (r:aP P c ops Q Γ (Hf.set k λa=>j8 T' lx (a.tmps.getD d undef)) os ms):aP P c ops Q Γ Hf (⟨none,.store T (.tmp d) z,ty,p,af,none⟩::os) (([k],some (k,[d]))::ms):=
 aP.cons (u:=some ⟨k,[d],λa=>j8 T' lx (a.tmps.getD d undef)⟩) (x:=AV.any) (sS λv v' e=>e▸rfl) (λF W0 I0 I γ a w Q U kk=>by
  obtain⟨b,hb⟩:=U.env d _ hy;obtain⟨cs,hv,sI⟩:=hz I a U.env rfl;have ek:=kv (a:=ea a γ) (F:=F) hk;rw[wa hb] at ek;obtain⟨w',hr,bB⟩:=U.yr (q:=0) (lx:=lx) (v:=a.eval z) k hT ek (by rw[hv];exact sI) hn (by rw[hl];simp);have e:eC l 0 lx=lx:=by simp[eC];omega
  rw[e] at bB;exact ik rfl (tZ hb rfl hr (kk γ (λ_ _=>rfl) I _ w' (bB.pass (l7 (a':=ea a γ) (f:=λa=>j8 T' lx (a.tmps.getD d undef)) (wa hb).symm))))) r
def St.nv (k:Nat) (U:St c I H Γ a w) (hd:Env.get d Γ=some AV.sP) (hk:H[k]?=some (j8 T l (a.tmps.getD d undef))):∃b,St c I (H.set k (Own.box b T l)) ((d,.val (.pointer (some ⟨b,0,none⟩)))::Γ) a w:=by
 obtain⟨b,hb⟩:∃b,a.tmps.getD d undef=.pointer (some ⟨b,0,none⟩):=U.env d _ hd;rw[wa hb] at hk;have e:H.set k (Own.box b T l)=H:=by
  apply List.ext_getElem?;intro j;rw[List.getElem?_set];split
  .rename_i e;subst e;rw[hk];simp[(List.getElem?_eq_some_iff.1 hk).1]
  rfl
 refine⟨b,U.step,by rw[e];exact U.own,λt x e=>?_,U.size,U.defers⟩;simp only[Env.get] at e;cases mI:Nat.beq d t with
 |true=>
  rw[mI] at e;simp only[cond_true] at e;cases e
  obtain rfl:d=t:=Nat.eq_of_beq_eq_true mI
  exact hb
 |false=>rw[mI] at e;exact U.env t x (by simpa using e)
def aP.Bh {d':Nat} {sz:Nat} {l l2:List (List AV)} (k:Nat) (hk:Hf[k]?=some λa=>Own.row (a.tmps.getD d' undef) E sz l) (hd:Nat.blt d c.n=true) (hU:P.underlying T=some (.slice E)) (hE:Ty P E ag sz m zv) (fA:zv.cells.size=sz)
 (hz:At (Γ.only ((⟨some d,.call ⟨.builtin .append,#[.tmp d',z],#[T,T]⟩,ty,p,af,none⟩:Oper).looksAt ops)) true z (.rows sz l2))
 (hb:(l.length+l2.length)*m<=140737488355328/\l.length+l2.length<=140737488355328)
 (r:aP P c ops Q ((d,.rows sz (l++l2))::Γ) (Hf.set k λ_=>Own.gone) os ms):aP P c ops Q Γ Hf (⟨some d,.call ⟨.builtin .append,#[.tmp d',z],#[T,T]⟩,ty,p,af,none⟩::os) (([k],some (k,[]))::ms):=
 aP.cons (u:=some ⟨k,[],λ_=>Own.gone⟩) (x:=.rows sz (l++l2)) (λv e=>by cases e;intro _ _ _;rfl) (λF W0 I0 I γ a w Q U kk=>by
  have ek:=kv (a:=ea a γ) (F:=F) hk;obtain⟨v',w',hr,bB⟩:=U.AW (ty:=ty) k hU hE fA ek (hz I a U.env rfl) hb.1 (by simp only[maxLen];omega);refine ik rfl ?_;unfold Oper.wp;have e1:a.eval (.tmp d')=a.tmps.getD d' undef:=rfl;simp only[execOp,resolve,invoke,builtin,Sem.run_bind,Sem.run_pure,Result.andThen_ok,List.map_toArray,List.map_cons,List.map_nil,e1,hr];have yJ:=bB.mC bB.step (Im.le_refl _) bB.own hd (x:=.val v') rfl;obtain⟨I',eW,hf⟩:=yJ.sK k (by rw[List.getElem?_set_self (List.getElem?_eq_some_iff.1 ek).1]);rw[List.set_set] at eW;have rj:=eW.vP (t:=d) (by simp[Env.get]) hf;refine kk γ (λ_ _=>rfl) I' _ w' ((rj.le λt x e=>?_).pass (l7 rfl));simp only[l6,Env.get] at e⊢;cases mI:Nat.beq d t with
  |true=>rw[mI] at e;exact e
  |false=>rw[mI] at e;simpa using e) r
def AV.jd:AV:=⟨λ_ v=>v.oneCell'=true,λ_ _ _ _ h=>h⟩
def aP.Bi {v:Value} {sz:Nat} {l l2:List (List AV)} (k:Nat) (hk:Hf[k]?=some λ_=>Own.row v E sz l) (hd:Nat.blt d c.n=true) (hU:P.underlying T=some (.slice E)) (hE:Ty P E ag sz m zv) (fA:zv.cells.size=sz)
 (hy:At (Γ.only ((⟨some d,.call ⟨.builtin .append,#[y,z],#[T,T]⟩,ty,p,af,none⟩:Oper).looksAt ops)) true y (.val v)) (hz:At (Γ.only ((⟨some d,.call ⟨.builtin .append,#[y,z],#[T,T]⟩,ty,p,af,none⟩:Oper).looksAt ops)) true z (.rows sz l2))
 (hb:(l.length+l2.length)*m<=140737488355328/\l.length+l2.length<=140737488355328)
 (r:aP P c ops Q ((d,AV.jd)::Γ) (Hf.set k λa=>Own.row (a.tmps.getD d undef) E sz (l++l2)) os ms):aP P c ops Q Γ Hf (⟨some d,.call ⟨.builtin .append,#[y,z],#[T,T]⟩,ty,p,af,none⟩::os) (([k],some (k,[d]))::ms):=
 aP.cons (u:=some ⟨k,[d],λa=>Own.row (a.tmps.getD d undef) E sz (l++l2)⟩) (x:=AV.jd) (sS (g:=λv=>Own.row v E sz (l++l2)) λv v' e=>e▸rfl) (λF W0 I0 I γ a w Q U kk=>U.append k hd hU hE fA hy hz (kv hk) hb λv' a' w' bB=>by
  have hv:a'.tmps.getD d undef=v':=bB.env d (.val v') (by simp[Env.get]);have uu:=bB.own.all (Own.row v' E sz (l++l2)) (List.mem_of_getElem? (i:=k) (by rw[List.getElem?_set_self (List.getElem?_eq_some_iff.1 (kv (a:=ea a γ) (F:=F) hk)).1]));have h1:=bB.pass (l7 (a':=ea a' γ) (f:=λa=>Own.row (a.tmps.getD d undef) E sz (l++l2)) (by rw[hv]));exact kk γ (λ_ _=>rfl) I a' w' ⟨h1.step,h1.own,λt x e=>by
   simp only[l6,Env.get] at e;cases hb:Nat.beq d t with
   |true=>
    rw[hb] at e;simp only[cond_true] at e;cases e
    obtain rfl:d=t:=Nat.eq_of_beq_eq_true hb
    show(a'.tmps.getD d undef).oneCell'=true
    rw[hv]
    obtain⟨_,⟨_,rfl|⟨q,rfl,_⟩⟩|⟨b,cap,cur,rfl,_⟩⟩:=uu.1<;>rfl
   |false=>rw[hb] at e;exact h1.env t x (by simp only[Env.get,hb];exact e),h1.size,h1.defers⟩) r
def aP.EC {d' b q:Nat} {l:List AV} (k:Nat) (hk:Hf[k]?=some λ_=>Own.box b T' l) (hT:Ty P T false 1 m zv) (hy:At (Γ.only ((⟨none,.store T y (.tmp d'),ty,p,af,none⟩:Oper).looksAt ops)) true y (.val (.pointer (some ⟨b,q,none⟩))))
 (hz:Env.get d' (Γ.only ((⟨none,.store T y (.tmp d'),ty,p,af,none⟩:Oper).looksAt ops))=some AV.jd) (hq:Nat.blt q l.length=true)
 (r:aP P c ops Q Γ (Hf.set k λa=>Own.box b T' (l.set q (.val (a.tmps.getD d' undef)))) os ms):aP P c ops Q Γ Hf (⟨none,.store T y (.tmp d'),ty,p,af,none⟩::os) (([k],some (k,[d']))::ms):=
 aP.cons (u:=some ⟨k,[d'],λa=>Own.box b T' (l.set q (.val (a.tmps.getD d' undef)))⟩) (x:=AV.any) (sS (g:=λv=>Own.box b T' (l.set q (.val v))) λv v' e=>e▸rfl) (λF W0 I0 I γ a w Q U kk=>by
  have hb:=hy I a U.env rfl;have h1:(a.tmps.getD d' undef).oneCell'=true:=U.env d' _ hz;have hc:=yp h1;have Jg:q<l.length:=by simpa using hq
  obtain⟨w',hr,bB⟩:=U.yr (q:=q) (lx:=[.val (a.tmps.getD d' undef)]) (v:=a.tmps.getD d' undef) k hT (kv hk) (by rw[hc];exact⟨⟨rfl,h1⟩,trivial⟩) rfl ff;rw[DX Jg] at bB;exact ik rfl (tZ hb rfl hr (kk γ (λ_ _=>rfl) I _ w' (bB.pass (l7 (f:=λa=>Own.box b T' (l.set q (.val (a.tmps.getD d' undef)))) rfl))))) r
def AV.bare:AV:=⟨λ_ v=>tV v,λ_ _ _ _ h=>h⟩
def sT {H:List Own} {g:Bool} {d:Option Tmp} {gd:Option (Nat×Bool)} {sz:Nat} (hT:P.underlying T=some (.slice E)) (hE:Ty P E ag sz m zv):Ok P H Γ g ⟨d,.buildSlice T 0 #[],ty,p,af,gd⟩ AV.bare:=
 λbase I a w K Q he hm hw hg k=>by
  have uh:(sizeOf E).run P w=.ok sz w:=hE.size;have hr:(Instr.buildSlice T 0 ((#[]:Array (Nat×Operand)).map λ(i,x)=>(i,a.eval x))).run P w=.ok (.slice (some ⟨w.heap.size,0,none⟩) 0 0) (w.alloc (.cells #[] E)):=by
   simp only[Instr.buildSlice,Sem.run_bind,run_underlying hT,Result.andThen_ok,uh];have e0:Array.range 0=#[]:=rfl;simp[Instr.fill,A0,e0]
  unfold Oper.wp;simp only[execOp,Sem.run_bind,hr,Result.andThen_ok,Sem.run_pure,Oper.upon_value];exact k _ I _ (.inr ⟨⟨w.heap.size,0,none⟩,rfl,rfl⟩) (Step.alloc hm (.cells #[] E))
def Bj {H:List Own} {g:Bool} {d:Option Tmp} {gd:Option (Nat×Bool)} {sz:Nat} {l2:List (List AV)} (hU:P.underlying T=some (.slice E)) (hE:Ty P E ag sz m zv) (fA:zv.cells.size=sz) (hy:At Γ g y AV.bare) (hz:At Γ g z (.rows sz l2)) (hb:g=true->l2.length*m<=140737488355328/\l2.length<=140737488355328):
 Ok P H Γ g ⟨d,.call ⟨.builtin .append,#[y,z],#[T,T]⟩,ty,p,af,gd⟩ (.rows sz l2):=
 λbase I a w K Q he hm hw hg k=>by
  have oZ:tV (a.eval y):=hy I a he hg;have RD:St ⟨w,I,0,j2⟩ I [] [] {tmps:=#[],defers:=[]} w:=⟨eR.refl hm,bQ.nil _ _ _,λt x e=>by simp[Env.get] at e,rfl,rfl⟩;have uh:=RD.AU (sz:=sz) E oZ;obtain⟨v',w',hr,eW⟩:=uh.AW (ty:=ty) 0 hU hE fA rfl (hz I a he hg) (by simpa using(hb hg).1) (by have:=(hb hg).2;simp only[maxLen];simp;omega);obtain⟨I',rj,hv⟩:=eW.sK 0 rfl;unfold Oper.wp;simp only[execOp,resolve,invoke,builtin,Sem.run_bind,Sem.run_pure,Result.andThen_ok,List.map_toArray,List.map_cons,List.map_nil,hr];exact k v' I' w' hv rj.step.all
def aP.yK {sz:Nat} {l2:List (List AV)} (k:Nat) (hk:Hf[k]?=some λ_=>Own.gone) (hd:Nat.blt d c.n=true) (hU:P.underlying T=some (.slice E)) (hE:Ty P E ag sz m zv) (fA:zv.cells.size=sz)
 (hy:At (Γ.only ((⟨some d,.call ⟨.builtin .append,#[y,z],#[T,T]⟩,ty,p,af,none⟩:Oper).looksAt ops)) true y AV.bare) (hz:At (Γ.only ((⟨some d,.call ⟨.builtin .append,#[y,z],#[T,T]⟩,ty,p,af,none⟩:Oper).looksAt ops)) true z (.rows sz l2))
 (hb:l2.length*m<=140737488355328/\l2.length<=140737488355328)
 (r:aP P c ops Q ((d,AV.jd)::Γ) (Hf.set k λa=>Own.row (a.tmps.getD d undef) E sz l2) os ms):aP P c ops Q Γ Hf (⟨some d,.call ⟨.builtin .append,#[y,z],#[T,T]⟩,ty,p,af,none⟩::os) (([k],some (k,[d]))::ms):=
 aP.cons (u:=some ⟨k,[d],λa=>Own.row (a.tmps.getD d undef) E sz l2⟩) (x:=AV.jd) (sS (g:=λv=>Own.row v E sz l2) λv v' e=>e▸rfl) (λF W0 I0 I γ a w Q U kk=>by
  have oZ:tV (a.eval y):=hy I a U.env rfl;have hlen:=List.getElem?_eq_some_iff.1 (kv (a:=ea a γ) (F:=F) hk);have uh:=(U.AU (sz:=sz) E oZ).sR k (kv (a:=ea a γ) (F:=F) hk);have cY:((dq [k] (ea a γ) F 0 Hf).set k (Own.row (a.eval y) E sz []))[k]?=some (Own.row (a.eval y) E sz []):=by rw[List.getElem?_set_self hlen.1]
  obtain⟨v',w',hr,bB⟩:=uh.AW (ty:=ty) k hU hE fA cY (hz I a U.env rfl) (by simpa using hb.1) (by simp only[maxLen];simp;omega);rw[List.set_set,List.nil_append] at bB;refine ik rfl ?_;unfold Oper.wp;simp only[execOp,resolve,invoke,builtin,Sem.run_bind,Sem.run_pure,Result.andThen_ok,List.map_toArray,List.map_cons,List.map_nil,hr];have uu:=bB.own.all (Own.row v' E sz l2) (List.mem_of_getElem? (i:=k) (by rw[List.getElem?_set_self hlen.1]));have h1:v'.oneCell'=true:=by
   obtain⟨_,⟨_,rfl|⟨q,rfl,_⟩⟩|⟨b,cap,cur,rfl,_⟩⟩:=uu.1<;>rfl
  have yJ:=bB.mC (d:=d) (v:=v') (x:=AV.jd) bB.step (Im.le_refl _) bB.own hd h1;refine kk γ (λ_ _=>rfl) I _ w' (yJ.pass (l7 (a':=ea (a.put (some d) v') γ) (f:=λa=>Own.row (a.tmps.getD d undef) E sz l2) ?_));have:(a.put (some d) v').tmps.getD d undef=v':=by
   have iF:d<c.n:=by simpa using hd
   have cJ:=U.size;simp[Act.put,cJ,iF]
  rw[this]) r
end
end Go.Proofs.YtldbakcpcfdlaaaGreat
