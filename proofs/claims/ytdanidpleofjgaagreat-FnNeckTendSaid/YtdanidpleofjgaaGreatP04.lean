/- Part 4: rules of the proofs. -/
import Derived.Test.YtdanidpleofjgaaGreatP03
set_option linter.all false
namespace Go.Proofs.YtdanidpleofjgaaGreat
open Go Go.RowKit
structure oP where
 k:Nat
 aR:List Nat
 f:Act->Own
structure Rec where
 x:AV
 T:List Nat
 u:Option oP
def oP.fit (u:oP):Prop:=∀a a':Act,(∀d∈u.aR,a.tmps.getD d undef=a'.tmps.getD d undef)->u.f a=u.f a'
def lW (d:Option Nat) (x:AV) (Γ:Env):Env:=match d with|some d=>(d,x)::Γ|none=>Γ
def lH (H:List (Act->Own)):Option oP->List (Act->Own)
 |none=>H
 |some u=>H.set u.k u.f
def cellAt (S:Nat->Bool) (k:Nat):Nat->List Rec->(Act->Own)->Act->Own
 |_,[],f=>f
 |i,r::rs,f=>cellAt S k (i+1) rs (match r.u with|none=>f|some u=>bif S i&&Nat.beq u.k k then u.f else f)
def hZ (S:Nat->Bool) (i:Nat) (rs:List Rec):Nat->List (Act->Own)->List (Act->Own)
 |_,[]=>[]
 |k,f::fs=>cellAt S k i rs f::hZ S i rs (k+1) fs
def eo (T:List Nat) (a:Act) (F:Nat->Own):Nat->List (Act->Own)->List Own
 |_,[]=>[]
 |k,f::fs=>(bif T.contains k then f a else F k)::eo T a F (k+1) fs
def mu (a:Act) (H:List (Act->Own)):List Own:=H.map λf=>f a
def oQ {S:Nat->Bool} {i:Nat} {rs:List Rec}:∀(k:Nat) (H:List (Act->Own)) (j:Nat),(hZ S i rs k H)[j]?=(H[j]?).map (cellAt S (k+j) i rs)
 |_,[],j=>by simp[hZ]
 |k,f::fs,0=>by simp[hZ]
 |k,f::fs,j+1=>by
  simp only[hZ,List.getElem?_cons_succ];rw[oQ (k+1) fs j];have e:k+1+j=k+(j+1):=by omega
  rw[e]
def wa {T:List Nat} {a:Act} {F:Nat->Own}:∀(k:Nat) (H:List (Act->Own)) (j:Nat),(eo T a F k H)[j]?=(H[j]?).map (λf=>bif T.contains (k+j) then f a else F (k+j))
 |_,[],j=>by simp[eo]
 |k,f::fs,0=>by simp[eo]
 |k,f::fs,j+1=>by
  simp only[eo,List.getElem?_cons_succ];rw[wa (k+1) fs j];have e:k+1+j=k+(j+1):=by omega
  rw[e]
def CY {S:Nat->Bool} {i:Nat} {rs:List Rec}:∀(k:Nat) (H:List (Act->Own)),(hZ S i rs k H).length=H.length
 |_,[]=>rfl
 |k,f::fs=>by simp[hZ,CY (k+1) fs]
def Aw {S S':Nat->Bool} {k:Nat}:∀(i:Nat) (rs:List Rec) (f:Act->Own),(∀(j:Nat) (r:Rec) (u:oP),rs[j]?=some r->r.u=some u->u.k=k->S (i+j)=S' (i+j))->cellAt S k i rs f=cellAt S' k i rs f
 |_,[],_,_=>rfl
 |i,r::rs,f,h=>by
  have ih:=λf=>Aw (S:=S) (S':=S') (k:=k) (i+1) rs f λj r' u h1 h2 h3=>by
   have:=h (j+1) r' u (by simpa using h1) h2 h3;have e:i+1+j=i+(j+1):=by omega
   rw[e];exact this
  simp only[cellAt];rw[ih];cases hu:r.u with
  |none=>rfl
  |some u=>
   simp only[]
   cases hb:Nat.beq u.k k with
   |false=>simp
   |true=>rw[show S i=S' i from h 0 r u rfl hu (Nat.eq_of_beq_eq_true hb)]
def Gv {S:Nat->Bool} {k:Nat}:∀(i:Nat) (rs:List Rec) (f:Act->Own),(∀j,i<=j->S j=false)->cellAt S k i rs f=f
 |_,[],_,_=>rfl
 |i,r::rs,f,h=>by
  simp only[cellAt];rw[Gv (i+1) rs _ λj hj=>h j om];cases r.u with
  |none=>rfl
  |some u=>simp[h i (Nat.le_refl _)]
def MT {S:Nat->Bool} {k:Nat}:∀(i:Nat) (rs:List Rec) (f:Act->Own) (j:Nat) (r:Rec) (u:oP),rs[j]?=some r->r.u=some u->u.k=k->S (i+j)=true->
 (∀(j':Nat) (r':Rec) (u':oP),rs[j']?=some r'->r'.u=some u'->u'.k=k->j<j'->S (i+j')=false)->cellAt S k i rs f=u.f
 |_,[],_,_,_,_,h,_,_,_,_=>by simp at h
 |i,r0::rs,f,0,r,u,h1,h2,h3,h4,h5=>by
  simp at h1;subst h1;simp only[cellAt,h2];have hb:Nat.beq u.k k=true:=by rw[h3];exact Nat.beq_refl k
  have Vw:S i=true:=h4;rw[hb,Vw];simp only[Bool.and_self,cond_true];have:=Aw (S:=S) (S':=λ_=>false) (k:=k) (i+1) rs u.f λj' r' u' g1 g2 g3=>by
   have:=h5 (j'+1) r' u' (by simpa using g1) g2 g3 om;rw[show i+1+j'=i+(j'+1) from by omega];exact this
  rw[this];exact Gv _ _ _ λ_ _=>rfl
 |i,r0::rs,f,j+1,r,u,h1,h2,h3,h4,h5=>by
  simp only[cellAt];exact MT (i+1) rs _ j r u (by simpa using h1) h2 h3 (by rw[show i+1+j=i+(j+1) from by omega];exact h4) λj' r' u' g1 g2 g3 g4=>by
   have:=h5 (j'+1) r' u' (by simpa using g1) g2 g3 om;rw[show i+1+j'=i+(j'+1) from by omega];exact this
def MU {S:Nat->Bool} {k:Nat} {a a':Act}:∀(i:Nat) (rs:List Rec) (f:Act->Own),f a=f a'->(∀(j:Nat) (r:Rec) (u:oP),rs[j]?=some r->r.u=some u->S (i+j)=true->u.f a=u.f a')->cellAt S k i rs f a=cellAt S k i rs f a'
 |_,[],_,h,_=>h
 |i,r::rs,f,h,hd=>by
  simp only[cellAt];refine MU (i+1) rs _ ?_ λj r' u h1 h2 h3=>hd (j+1) r' u (by simpa using h1) h2 (by rw[show i+(j+1)=i+1+j from by omega];exact h3);cases hu:r.u with
  |none=>exact h
  |some u=>
   simp only[]
   cases hb:S i&&Nat.beq u.k k with
   |false=>exact h
   |true=>exact hd 0 r u rfl hu (by simp only[Bool.and_eq_true] at hb;exact hb.1)
def MV {S:Nat->Bool} {i:Nat} {r:Rec} {rs:List Rec} {H:List (Act->Own)} (hS:S i=true):hZ S (i+1) rs 0 (lH H r.u)=hZ S i (r::rs) 0 H:=by
 apply List.ext_getElem?;intro j;rw[oQ,oQ];cases hu:r.u with
 |none=>simp[lH,cellAt,hu]
 |some u=>
  simp only[lH,List.getElem?_set]
  by_cases hk:u.k=j
  .subst hk
   by_cases hl:u.k<H.length
   .simp[hl,cellAt,hu,hS]
   simp[hl]
  rw[if_neg hk]
  have hb:Nat.beq u.k j=false:=by
   cases hb:Nat.beq u.k j with
   |false=>rfl
   |true=>exact absurd (Nat.eq_of_beq_eq_true hb) hk
  cases H[j]? with
  |none=>rfl
  |some f=>simp[cellAt,hu,hb]
def MW {S:Nat->Bool} {i:Nat} {rs:List Rec} {H:List (Act->Own)} (h:∀j,i<=j->S j=false):hZ S i rs 0 H=H:=by
 apply List.ext_getElem?;intro j;rw[oQ];cases H[j]? with
 |none=>rfl
 |some f=>simp[Gv i rs f h]
def CZ (P:Program) (n:Nat) (ops:Array Oper) (H H':List (Act->Own)) (T:List Nat) (Γ:Env) (o:Oper) (x:AV):Prop:=
 ∀(F:Nat->Own) (W0:World×(Nat->Prop)) (I0 I:Im) (a:Act) (w:World) (Q:Exit->Act->World->Prop),St ⟨W0.1,I0,n,W0.2⟩ I (eo T a F 0 H) Γ a w->
  (∀I' a' w',St ⟨W0.1,I0,n,W0.2⟩ I' (eo T a' F 0 H') (lW o.dst x Γ) a' w'->wpList P ops Q [] a' w')->wpList P ops Q [o] a w
def wb (P:Program) (n:Nat) (ops:Array Oper):Env->List (Act->Own)->List Oper->List Rec->Prop
 |_,_,[],[]=>True
 |Γ,H,o::os,r::rs=>CZ P n ops H (lH H r.u) r.T (Γ.only (o.looksAt ops)) o r.x/\(∀u,r.u=some u->u.fit)/\wb P n ops (lW o.dst r.x Γ) (lH H r.u) os rs
 |_,_,_,_=>False
def ff:Nat->List Oper->List Rec->List oH
 |k,o::os,r::rs=>match o.dst with|some d=>(k,d,r.x)::ff (k+1) os rs|none=>ff (k+1) os rs
 |_,_,_=>[]
def Gw:∀(k:Nat) (os:List Oper) (rs:List Rec),(ff k os rs).Pairwise (λe f=>e.1<f.1)/\∀e∈ff k os rs,k<=e.1
 |k,[],_=>by simp[ff]
 |k,o::os,[]=>by simp[ff]
 |k,o::os,r::rs=>by
  have ih:=Gw (k+1) os rs;simp only[ff];split
  .refine⟨List.pairwise_cons.2 ⟨λe he=>by have:=ih.2 e he;simp;omega,ih.1⟩,λe he=>?_⟩;rcases List.mem_cons.1 he with rfl|he
   .simp
   have:=ih.2 e he;omega
  exact⟨ih.1,λe he=>by have:=ih.2 e he;omega⟩
def MX {e:oH}:∀{k:Nat} {os:List Oper} {rs:List Rec},e∈ff k os rs->∃i o r,os[i]?=some o/\rs[i]?=some r/\e.1=k+i/\o.dst=some e.2.1/\e.2.2=r.x
 |k,[],_,h=>by simp[ff] at h
 |k,o::os,[],h=>by simp[ff] at h
 |k,o::os,r::rs,h=>by
  simp only[ff] at h;have key:e∈ff (k+1) os rs->∃i o' r',(o::os)[i]?=some o'/\(r::rs)[i]?=some r'/\e.1=k+i/\o'.dst=some e.2.1/\e.2.2=r'.x:=λh=>by
   obtain⟨i,o',r',h1,h2,h3,h4⟩:=MX h;exact⟨i+1,o',r',by simpa using h1,by simpa using h2,by omega,h4⟩
  split at h
  .rename_i d hd;rcases List.mem_cons.1 h with rfl|h
   .exact⟨0,o,r,rfl,rfl,rfl,hd,rfl⟩
   exact key h
  exact key h
def Vx {i d:Nat} {o:Oper} {r:Rec} (hd:o.dst=some d):∀{k:Nat} {os:List Oper} {rs:List Rec},os[i]?=some o->rs[i]?=some r->(k+i,d,r.x)∈ff k os rs:=by
 induction i with
 |zero=>intro k os rs h1 h2;cases os<;>cases rs<;>simp at h1 h2;subst h1 h2;simp[ff,hd]
 |succ i ih=>
  intro k os rs h1 h2
  cases os with
  |nil=>simp at h1
  |cons o' os=>cases rs with
   |nil=>simp at h2
   |cons r' rs=>
    simp at h1 h2
    have:=ih (k:=k+1) h1 h2
    rw[show k+(i+1)=k+1+i from by omega]
    simp only[ff]
    split
    .exact List.mem_cons_of_mem _ this
    exact this
def wc (Γ:Env):List Oper->List Rec->Env
 |o::os,r::rs=>wc (lW o.dst r.x Γ) os rs
 |_,_=>Γ
def MY:∀(os:List Oper) (rs:List Rec) (k:Nat) (Γ:Env),wc Γ os rs=eZ (ff k os rs).reverse++Γ
 |[],_,_,_=>by simp[wc,ff,eZ]
 |_::_,[],_,_=>by simp[wc,ff,eZ]
 |o::os,r::rs,k,Γ=>by
  rw[wc,MY os rs (k+1)];simp only[ff];cases o.dst with
  |none=>rfl
  |some d=>simp[eZ,lW]
def Ax (H:List (Act->Own)):List Rec->List (Act->Own)
 |r::rs=>Ax (lH H r.u) rs
 |[]=>H
def MZ:∀(rs:List Rec) (i:Nat) (H:List (Act->Own)),Ax H rs=hZ (λ_=>true) i rs 0 H
 |[],i,H=>by
  apply List.ext_getElem?;intro j;rw[oQ];show H[j]?=_;cases H[j]?<;>rfl
 |r::rs,i,H=>by rw[Ax,MZ rs (i+1),MV rfl]
def wb.at {P:Program} {n:Nat} {ops:Array Oper} {Γ0:Env}:∀(os:List Oper) (rs:List Rec) (k:Nat) (H:List (Act->Own)) (done:List oH),wb P n ops (eZ done++Γ0) H os rs->(∀e∈done,e.1<k)->
 os.length=rs.length/\(∀(i:Nat) (r:Rec) (u:oP),rs[i]?=some r->r.u=some u->u.fit)/\∀(i:Nat) (o:Oper) (r:Rec),os[i]?=some o->rs[i]?=some r->
  CZ P n ops (hZ (λj=>decide (j<k+i)) k rs 0 H) (lH (hZ (λj=>decide (j<k+i)) k rs 0 H) r.u) r.T ((eZ (((ff k os rs).reverse++done).filter λe=>decide (e.1<k+i))++Γ0).only (o.looksAt ops)) o r.x
 |[],[],_,_,_,_,_=>⟨rfl,λi r u h=>by simp at h,λi o r h=>by simp at h⟩
 |o::os,r::rs,k,H,done,h,hd=>by
  obtain⟨h1,hf,h2⟩:=h;have e0:lW o.dst r.x (eZ done++Γ0)=eZ (match o.dst with|some d=>(k,d,r.x)::done|none=>done)++Γ0:=by
   cases o.dst with
   |none=>rfl
   |some d=>simp[lW,eZ]
  rw[e0] at h2;have ih:=wb.at os rs (k+1) (lH H r.u) _ h2 (λe he=>by
   split at he
   .rcases List.mem_cons.1 he with rfl|he
    .simp
    have:=hd e he;omega
   have:=hd e he;omega)
  have Ab:(ff k (o::os) (r::rs)).reverse++done=(ff (k+1) os rs).reverse++(match o.dst with|some d=>(k,d,r.x)::done|none=>done):=by
   simp only[ff];cases o.dst with
   |none=>rfl
   |some d=>simp
  refine⟨by simp[ih.1],λi r' u g1 g2=>?_,λi o' r' ho hr=>?_⟩
  .cases i with
   |zero=>simp at g1;subst g1;exact hf u g2
   |succ i=>exact ih.2.1 i r' u (by simpa using g1) g2
  rw[Ab];cases i with
  |zero=>
   simp at ho hr;subst ho hr
   have kg:((ff (k+1) os rs).reverse++(match o.dst with|some d=>(k,d,r.x)::done|none=>done)).filter (λe=>decide (e.1<k+0))=done:=by
    rw[List.filter_append];have e1:(ff (k+1) os rs).reverse.filter (λe=>decide (e.1<k+0))=[]:=by
     rw[List.filter_eq_nil_iff];intro e he;have:=(Gw (k+1) os rs).2 e (List.mem_reverse.1 he);simp;omega
    have e2:done.filter (λe=>decide (e.1<k+0))=done:=by
     rw[List.filter_eq_self];intro e he;simpa using hd e he
    rw[e1];split
    .rw[List.filter_cons];simp only[Nat.add_zero,Nat.lt_irrefl,decide_false,Bool.false_eq_true,if_false,List.nil_append];simpa using e2
    simpa using e2
   rw[kg,MW λj hj=>by simp;omega]
   exact h1
  |succ i=>
   have:=ih.2.2 i o' r' (by simpa using ho) (by simpa using hr)
   rw[MV fT] at this
   rw[show k+(i+1)=k+1+i from by omega]
   exact this
 |[],_::_,_,_,_,h,_=>h.elim
 |_::_,[],_,_,_,h,_=>h.elim
abbrev Meta:=List (List Nat×Option (Nat×List Nat))
def rp:Nat->Meta->Meta
 |0,l=>l
 |n+1,l=>([],none)::rp n l
def Rec.lX (r:Rec):List Nat×Option (Nat×List Nat):=(r.T,r.u.map λu=>(u.k,u.aR))
def qu (l:List Oper) (ms:Meta):Bool:=
 let C:=jz [] l
 let before:=λ(i j:Nat)=>if j<i then(C.getD i []).contains j else(C.getD j []).contains i
 (l.zipIdx.all λ(o,i)=>(o.after.toList.all λe=>!Region.binds .any e||Nat.blt e.on i)&&
   (slotsOf l.toArray o).all λt=>l.zipIdx.all λ(o',j)=>Nat.beq i j||!(o'.dst==some t)||before i j)&&
 (ms.zipIdx.all λ(m,i)=>(m.1.all λk=>ms.zipIdx.all λ(m',j)=>Nat.beq i j||(match m'.2 with|some u=>!Nat.beq u.1 k|none=>true)||before i j)&&
   (match m.2 with|some u=>m.1.contains u.1|none=>true))&&
 (l.zipIdx.all λ(o,i)=>match o.dst with|none=>true|some d=>ms.zipIdx.all λ(m,j)=>Nat.beq i j||(match m.2 with|some u=>!u.2.contains d|none=>true)||(C.getD j []).contains i)
def Gx {i j:Nat} (h:i≠j):Nat.beq i j=false:=by
 cases hb:Nat.beq i j with
 |false=>rfl
 |true=>exact absurd (Nat.eq_of_beq_eq_true hb) h
def Vy {l:List Oper} {ms:Meta} (h:qu l ms=true) {i:Nat} {o:Oper} (ho:l[i]?=some o):∀e∈o.after.toList,Region.binds .any e=true->e.on<i:=λe he hb=>by
 simp only[qu,List.all_eq_true,Bool.and_eq_true] at h;have hm:(o,i)∈l.zipIdx:=by rw[List.mem_zipIdx_iff_getElem?];exact ho
 have:=(h.1.1 _ hm).1 e he;rw[hb] at this;simpa using this
def Vz {l:List Oper} {ms:Meta} (h:qu l ms=true) {i:Nat} {o:Oper} (ho:l[i]?=some o):
 ∀t∈slotsOf l.toArray o,∀j o',l[j]?=some o'->i≠j->o'.dst=some t->if j<i then j∈(jz [] l).getD i [] else i∈(jz [] l).getD j []:=λt ht j o' kz aZ hd=>by
 simp only[qu,List.all_eq_true,Bool.and_eq_true] at h;have hm:(o,i)∈l.zipIdx:=by rw[List.mem_zipIdx_iff_getElem?];exact ho
 have m7:(o',j)∈l.zipIdx:=by rw[List.mem_zipIdx_iff_getElem?];exact kz
 have:=(h.1.1 _ hm).2 t ht _ m7;simp only[Gx aZ,hd,Bool.false_or] at this;have h4:(!(some t==some t))=false:=by simp
 rw[h4,Bool.false_or] at this;split
 .rename_i bK;rw[if_pos bK] at this;simpa using this
 rename_i bK;rw[if_neg bK] at this;simpa using this
def VA {l:List Oper} {rs:List Rec} (h:qu l (rs.map Rec.lX)=true) {i:Nat} {r:Rec} (hr:rs[i]?=some r):
 (∀k∈r.T,∀j r' u,rs[j]?=some r'->i≠j->r'.u=some u->u.k=k->if j<i then j∈(jz [] l).getD i [] else i∈(jz [] l).getD j [])/\∀u,r.u=some u->u.k∈r.T:=by
 simp only[qu,List.all_eq_true,Bool.and_eq_true] at h;have hm:(r.lX,i)∈(rs.map Rec.lX).zipIdx:=by rw[List.mem_zipIdx_iff_getElem?];simp[hr]
 obtain⟨h1,h2⟩:=h.1.2 _ hm;refine⟨λk hk j r' u VB aZ hu VC=>?_,λu hu=>?_⟩
 .have m7:(r'.lX,j)∈(rs.map Rec.lX).zipIdx:=by rw[List.mem_zipIdx_iff_getElem?];simp[VB]
  have:=h1 k hk _ m7;have hb:Nat.beq u.k k=true:=by rw[VC];exact Nat.beq_refl k
  simp only[Gx aZ,Rec.lX,hu,Option.map_some,hb,Bool.not_true,Bool.false_or] at this;split
  .rename_i bK;rw[if_pos bK] at this;simpa using this
  rename_i bK;rw[if_neg bK] at this;simpa using this
 simp only[Rec.lX,hu,Option.map_some] at h2;simpa using h2
def VD {l:List Oper} {rs:List Rec} (h:qu l (rs.map Rec.lX)=true) {i d:Nat} {o:Oper} (ho:l[i]?=some o) (hd:o.dst=some d) {j:Nat} {r:Rec} {u:oP} (hr:rs[j]?=some r) (hu:r.u=some u) (aZ:i≠j) (C0:d∈u.aR):
 i∈(jz [] l).getD j []:=by
 simp only[qu,List.all_eq_true,Bool.and_eq_true] at h;have hm:(o,i)∈l.zipIdx:=by rw[List.mem_zipIdx_iff_getElem?];exact ho
 have:=h.2 _ hm;simp only[hd,List.all_eq_true] at this;have m7:(r.lX,j)∈(rs.map Rec.lX).zipIdx:=by rw[List.mem_zipIdx_iff_getElem?];simp[hr]
 have:=this _ m7;simp only[Gx aZ,Rec.lX,hu,Option.map_some,Bool.false_or,Bool.or_eq_true,Bool.not_eq_true'] at this;rcases this with h|h
 .have:u.aR.contains d=true:=by simpa using C0
  rw[this] at h;cases h
 simpa using h
section
variable {P:Program} {c:Ctx} {I:Im} {H:List Own} {Γ:Env} {a:Act} {w:World} {Q:Exit->Act->World->Prop}
def VE {o:Oper} {K:Act->World->Prop} {Q':Exit->Act->World->Prop} (hq:∀e a w,e≠.normal->Q' e a w->Q e a w) (h:o.wp P a w K Q'):o.wp P a w (λa' w'=>(∃v,a'.tmps=(a.put o.dst v).tmps)/\K a' w') Q:=by
 unfold Oper.wp at h⊢;generalize (execOp a.eval o).run P w=r at h⊢;cases r with
 |ok n w'=>
  cases n with
  |enter f args=>
   refine Calls.mono h λe vF he=>?_
   cases e with
   |returned v=>exact⟨⟨v,rfl⟩,he⟩
   |panicked ch=>exact hq _ _ _ bt he
   |outgrown=>exact let⟨a,w,h⟩:=he;⟨a,w,hq _ _ _ bt h⟩
  |row row args=>exact Rows.mono h λv vF he=>⟨⟨v,rfl⟩,he⟩
  |value v=>exact⟨⟨v,rfl⟩,h⟩
  |skip=>exact⟨⟨undef,rfl⟩,h⟩
  |defer d=>exact⟨⟨undef,by cases o.dst<;>rfl⟩,h⟩
  |_=>exact h
 |halt x w'=>cases x<;>simp only[Oper.upon] at h⊢<;>first|exact h|exact hq _ _ _ bt h
def M0 {T:List Nat} {F:Nat->Own} {Hf:List (Act->Own)} {X:List Own} (hl:X.length=Hf.length) (h:∀j f x,Hf[j]?=some f->X[j]?=some x->x=bif T.contains j then f a else F j):eo T a F 0 Hf=X:=by
 apply List.ext_getElem?;intro j;rw[wa];cases hf:Hf[j]? with
 |none=>
  have:Hf.length<=j:=by simpa using hf
  rw[List.getElem?_eq_none om];rfl
 |some f=>
  have hj:j<Hf.length:=(List.getElem?_eq_some_iff.1 hf).1
  have hx:X[j]?=some X[j]:=by simp[hl,hj]
  rw[hx]
  simp only[Option.map_some,Nat.zero_add]
  rw[<-h j f _ hf hx]
def St.VF (U:St c I H Γ a w):St ⟨c.W,I,c.n,c.F⟩ I H Γ a w:=
 ⟨⟨Im.le_refl I,λ_ _ _=>rfl,U.step.dp,U.step.below⟩,U.own,U.env,U.size,U.defers⟩
def Ay (pre tail:List Oper) (ms:Meta):Bool:=
 qu (pre++tail) (ms++tail.map λ_=>([],none))&&(List.range tail.length).all λi=>(List.range (pre.length+i)).all λj=>((jz [] (pre++tail)).getD (pre.length+i) []).contains j
def C1 {α:Type} {x y:List α} {i:Nat} {v:α} (h:x[i]?=some v):(x++y)[i]?=some v:=by
 rw[List.getElem?_append_left (List.getElem?_eq_some_iff.1 h).1];exact h
def VG {pre tail:List Oper} {rs:List Rec} {H0:List Own} (Gy:Ay pre tail (rs.map Rec.lX)=true) (hlen:pre.length=rs.length) (pD:(pre.all λo=>match o.dst with|some d=>Nat.blt d c.n|none=>true)=true)
 (ix:∀(i:Nat) (r:Rec) (u:oP),rs[i]?=some r->r.u=some u->u.fit)
 (run:∀(i:Nat) (o:Oper) (r:Rec),pre[i]?=some o->rs[i]?=some r->CZ P c.n (pre++tail).toArray (hZ (λj=>decide (j<i)) 0 rs 0 (H0.map λo _=>o)) (lH (hZ (λj=>decide (j<i)) 0 rs 0 (H0.map λo _=>o)) r.u) r.T ((eZ ((ff 0 pre rs).reverse.filter λe=>decide (e.1<i))++Γ).only (o.looksAt (pre++tail).toArray)) o r.x)
 (k:∀I' a' w',St c I' (mu a' (hZ (λ_=>true) 0 rs 0 (H0.map λo _=>o))) (eZ (ff 0 pre rs).reverse++Γ) a' w'->wpList P (pre++tail).toArray Q tail a' w'):
 ∀(fuel:Nat) (listed:Array Bool) (I:Im) (a:Act) (w:World),listed.size=(pre++tail).length->((List.range (pre++tail).length).filter λi=>!listed.getD i false).length<=fuel->
  (∀i,i<(pre++tail).length->listed.getD i false=true->i<pre.length)->
  (∀(i:Nat) (o:Oper),(pre++tail)[i]?=some o->listed.getD i false=true->∀e∈o.after.toList,Region.binds .any e=true->listed.getD e.on false=true)->
  St c I (mu a (hZ (λi=>listed.getD i false) 0 rs 0 (H0.map λo _=>o))) (eZ ((ff 0 pre rs).reverse.filter λe=>listed.getD e.1 false)++Γ) a w->wpAny P .any (pre++tail).toArray Q fuel listed a w:=by
 simp only[Ay,Bool.and_eq_true,List.all_eq_true] at Gy;have fX:qu (pre++tail) ((rs++tail.map λ_=>(⟨AV.any,[],none⟩:Rec)).map Rec.lX)=true:=by
  rw[List.map_append,List.map_map];exact Gy.1
 have hT:∀{i j:Nat},pre.length<=i->i<(pre++tail).length->j<i->j∈(jz [] (pre++tail)).getD i []:=λ{i j} hi jm hj=>by
  have:=Gy.2 (i-pre.length) (by simp at jm⊢;omega) j fT;rw[show pre.length+(i-pre.length)=i from by omega] at this;simpa using this
 have hE:∀{i:Nat} {o:Oper},(pre++tail)[i]?=some o->∀e∈o.after.toList,Region.binds .any e=true->e.on<i:=λho=>Vy fX ho;have hL:(ff 0 pre rs).reverse.Pairwise (λe f=>f.1<e.1):=by
  rw[List.pairwise_reverse];exact(Gw 0 pre rs).1
 have rK:∀e∈(ff 0 pre rs).reverse,∃o',pre[e.1]?=some o'/\o'.dst=some e.2.1:=λe he=>by
  obtain⟨j,o',r',g1,_,g3,g4,_⟩:=MX (List.mem_reverse.1 he);exact⟨o',by rw[g3,Nat.zero_add];exact g1,g4⟩
 have M1:∀(listed:Array Bool) (I:Im) (a:Act) (w:World),(∀i,i<pre.length->listed.getD i false=true)->
  St c I (mu a (hZ (λi=>listed.getD i false) 0 rs 0 (H0.map λo _=>o))) (eZ ((ff 0 pre rs).reverse.filter λe=>listed.getD e.1 false)++Γ) a w->wpList P (pre++tail).toArray Q tail a w:=λlisted I a w aT U=>by
  refine k I a w ?_;have e1:(ff 0 pre rs).reverse.filter (λe=>listed.getD e.1 false)=(ff 0 pre rs).reverse:=by
   rw[List.filter_eq_self];intro e he;obtain⟨o',h1,_⟩:=rK e he;exact aT e.1 (List.getElem?_eq_some_iff.1 h1).1
  have e2:hZ (λi=>listed.getD i false) 0 rs 0 (H0.map λo _=>o)=hZ (λ_=>true) 0 rs 0 (H0.map λo _=>o):=by
   apply List.ext_getElem?;intro j;rw[oQ,oQ];cases(H0.map λ(o:Own) (_:Act)=>o)[j]? with
   |none=>rfl
   |some f=>
    simp only[Option.map_some]
    rw[Aw (S:=λi=>listed.getD i false) (S':=λ_=>true) 0 rs f λj r u h1 _ _=>by
     rw[Nat.zero_add];exact aT j (by rw[hlen];exact(List.getElem?_eq_some_iff.1 h1).1)]
  rw[e1,e2] at U;exact U
 intro fuel;induction fuel with
 |zero=>
  intro listed I a w cN hf oL aQ U
  have h0:∀i,i<(pre++tail).length->listed.getD i false=true:=λi hi=>by
   have:(List.range (pre++tail).length).filter (λi=>!listed.getD i false)=[]:=List.eq_nil_of_length_eq_zero om;rw[List.filter_eq_nil_iff] at this;simpa using this i (by simpa using hi)
  have jq:tail=[]:=by
   rcases tail with _|⟨t,ts⟩
   .rfl
   have:=oL pre.length bt (h0 pre.length bt);omega
  have hw:=M1 listed I a w (λi hi=>h0 i fT) U
  exact CV hE hT 0 (pre++tail).length listed 0 a w om bt om om cN (λi hi=>⟨λ_=>hi,λ_=>h0 i hi⟩) (by subst jq;simpa using hw)
 |succ fuel ih=>
  intro listed I a w cN hf oL aQ U
  by_cases aT:∀i,i<pre.length->listed.getD i false=true
  .refine CV hE hT _ pre.length listed (fuel+1) a w rfl om bt (MK hf oL aT) cN (λi hi=>⟨oL i hi,aT i⟩) ?_
   rw[List.drop_left]
   exact M1 listed I a w aT U
  have As:∃i0,i0<pre.length/\listed.getD i0 false=false:=by
   refine Classical.byContradiction λhn=>aT λi hi=>?_;cases hb:listed.getD i false with
   |true=>rfl
   |false=>exact absurd ⟨i,hi,hb⟩ hn
  obtain⟨i0,Au,sZ⟩:=As
  refine⟨λhr=>?_,λi hi=>?_⟩
  .exfalso
   have:∀i,i<(pre++tail).length->listed.getD i false=true:=λi=>by
    induction i using Nat.strongRecOn with
    |_ i z8=>
     intro hi
     cases hl:listed.getD i false with
     |true=>rfl
     |false=>
      have kD:i∈Region.ready .any (pre++tail).toArray listed:=by
       refine mem_ready.2 ⟨by rw[yk om];exact hl,(pre++tail)[i],by simp[hi],λe he hb=>?_⟩;have bK:=hE (i:=i) (o:=(pre++tail)[i]) (by simp[hi]) e (by simpa using he) hb;exact z8 e.on bK om
      rw[hr] at kD;cases kD
   rw[this i0 fT] at sZ;cases sZ
  obtain⟨h1,o,h2,h3⟩:=mem_ready.1 hi
  have bK:i<(pre++tail).length:=by have:=(Array.getElem?_eq_some_iff.1 h2).1;simpa using this
  have ym:(pre++tail)[i]?=some o:=by simpa using h2
  rw[yk om] at h1
  have aJ:=Gn cN aQ ym (λe he hb=>h3 e (by simpa using he) hb)
  have jE:i<pre.length:=by
   refine Classical.byContradiction λhn=>?_;have:=aJ i0 om (hT om bK om);rw[this] at sZ;cases sZ
  have jC:∀j,(listed.setIfInBounds i true).getD j false=if j=i then true else listed.getD j false:=λj=>CK om false
  have Gp:=CI (S:=λj=>listed.getD j false) (pre++tail) [] (λi k hk=>by simp at hk) (λi o ho hi e he hb=>aQ i o ho (by simpa using hi) e he hb)
  have Gq:∀(i':Nat) (o':Oper),(pre++tail)[i']?=some o'->(listed.setIfInBounds i true).getD i' false=true->∀e∈o'.after.toList,Region.binds .any e=true->(listed.setIfInBounds i true).getD e.on false=true:=λi' o' kz jm e he hb=>by
   rw[jC] at jm⊢;split
   .rfl
   split at jm
   .rename_i Ar;subst Ar;rw[ym] at kz;cases kz;exact h3 e (by simpa using he) hb
   exact aQ i' o' kz jm e he hb
  have vY:∀j,i∈(jz [] (pre++tail)).getD j []->listed.getD j false=false:=λj hj=>by
   cases hb:listed.getD j false with
   |false=>rfl
   |true=>rw[Gp j i hj hb] at h1;cases h1
  have Gt:∀j,j<(pre++tail).length->(listed.setIfInBounds i true).getD j false=true->j<pre.length:=λj hj hb=>by
   rw[jC] at hb;split at hb
   .rename_i e;subst e;exact jE
   exact oL j hj hb
  have jP:pre[i]?=some o:=by rw[List.getElem?_append_left jE] at ym;exact ym
  have jn:i<rs.length:=by omega
  have yn:rs[i]?=some rs[i]:=by simp[jn]
  generalize rs[i]=r at yn
  obtain⟨VH,VI⟩:=VA fX (C1 yn)
  have x3:∀k∈r.T,∀j r' u,rs[j]?=some r'->i≠j->r'.u=some u->u.k=k->if j<i then j∈(jz [] (pre++tail)).getD i [] else i∈(jz [] (pre++tail)).getD j []:=λk hk j r' u g=>VH k hk j r' u (C1 g)
  have jd:=run i o r jP yn
  have Gz:∀k∈r.T,∀f,cellAt (λj=>decide (j<i)) k 0 rs f=cellAt (λj=>listed.getD j false) k 0 rs f:=λk hk f=>Aw 0 rs f λj r' u g1 g2 g3=>by
   rw[Nat.zero_add];by_cases jA:i=j
   .subst jA;rw[h1];simp
   have:=x3 k hk j r' u g1 jA g2 g3;split at this
   .rename_i oM;rw[aJ j (λe=>jA e.symm) this];simpa using oM
   rename_i oM;rw[vY j this];simpa using oM
  have VJ:=Vz fX ym
  have CW:∀t∈slotsOf (pre++tail).toArray o,∀j o',pre[j]?=some o'->i≠j->o'.dst=some t->if j<i then j∈(jz [] (pre++tail)).getD i [] else i∈(jz [] (pre++tail)).getD j []:=λt ht j o' g=>VJ t ht j o' (C1 g)
  have Gr:cY I a ((eZ ((ff 0 pre rs).reverse.filter λe=>decide (e.1<i))++Γ).only (o.looksAt (pre++tail).toArray)):=λt y e=>by
   obtain⟨g1,g2⟩:=Env.FX e;have ht:t∈slotsOf (pre++tail).toArray o:=by
    unfold slotsOf;rw[List.mem_append];exact .inr (by simpa using g2)
   rw[Aa (q:=λe=>listed.getD e.1 false) _ (λe he qt=>?_)] at g1
   .exact U.env t y g1
   obtain⟨o',k1,k2⟩:=rK e he;by_cases vZ:e.1=i
   .rw[vZ,h1];simp
   have:=CW t ht e.1 o' k1 (λh=>vZ h.symm) (by rw[k2,qt]);split at this
   .rename_i oM;rw[aJ e.1 vZ this];simpa using oM
   rename_i oM;rw[vY e.1 this];simpa using oM
  have Gs:((List.range (pre++tail).length).filter λj=>!(listed.setIfInBounds i true).getD j false).length<=fuel:=by
   have:=filter_lt (l:=List.range (pre++tail).length) (p:=λj=>!listed.getD j false) (q:=λj=>!(listed.setIfInBounds i true).getD j false) (i:=i) (by simpa using bK) (by simp only[h1];rfl) (by simp only[jC];simp) (λj hj=>by
    simp only[jC] at hj;split at hj
    .cases hj
    exact hj)
   omega
  let HS:List (Act->Own):=hZ (λi=>listed.getD i false) 0 rs 0 (H0.map λo _=>o)
  let F:Nat->Own:=λk=>match HS[k]? with|some f=>f a|none=>Own.gone
  have VK:eo r.T a F 0 (hZ (λj=>decide (j<i)) 0 rs 0 (H0.map λo _=>o))=mu a HS:=M0 (by simp[mu,HS,CY]) λj f x g1 g2=>by
   rw[oQ] at g1;have Az:(mu a HS)[j]?=some x:=g2;simp only[mu,List.getElem?_map] at Az;have g3:HS[j]?=((H0.map λ(o:Own) (_:Act)=>o)[j]?).map (cellAt (λi=>listed.getD i false) (0+j) 0 rs):=oQ 0 _ j;cases h0:(H0.map λ(o:Own) (_:Act)=>o)[j]? with
   |none=>rw[h0] at g1;simp at g1
   |some f0=>
    rw[h0] at g1 g3
    simp only[Option.map_some,Option.some.injEq,Nat.zero_add] at g1 g3
    rw[g3] at Az
    simp only[Option.map_some,Option.some.injEq] at Az
    cases hT:r.T.contains j with
    |true=>
     simp only[cond_true]
     rw[<-g1,<-Az,Gz j (by simpa using hT)]
    |false=>
     simp only[cond_false,F,g3,<-Az]
  have VL:St ⟨c.W,I,c.n,c.F⟩ I (eo r.T a F 0 (hZ (λj=>decide (j<i)) 0 rs 0 (H0.map λo _=>o))) ((eZ ((ff 0 pre rs).reverse.filter λe=>decide (e.1<i))++Γ).only (o.looksAt (pre++tail).toArray)) a w:=by
   rw[VK];exact⟨U.VF.step,U.own,Gr,U.size,U.defers⟩
  have pE:∀I' a' w',(∃v,a'.tmps=(a.put o.dst v).tmps)->St ⟨c.W,I,c.n,c.F⟩ I' (eo r.T a' F 0 (lH (hZ (λj=>decide (j<i)) 0 rs 0 (H0.map λo _=>o)) r.u)) (lW o.dst r.x ((eZ ((ff 0 pre rs).reverse.filter λe=>decide (e.1<i))++Γ).only (o.looksAt (pre++tail).toArray))) a' w'->
   wpAny P .any (pre++tail).toArray Q fuel (listed.setIfInBounds i true) a' w':=λI' a' w' ⟨v,hv⟩ h'=>by
   refine ih (listed.setIfInBounds i true) I' a' w' (by simpa using cN) Gs Gt Gq ?_;have AA:∀t,o.dst≠some t->a'.tmps.getD t undef=a.tmps.getD t undef:=λt ht=>by
    rw[hv];cases hd:o.dst with
    |none=>rfl
    |some d=>
     have aZ:d≠t:=λe=>ht (by rw[hd,e])
     simp[Act.put,aZ]
   have dO:eo r.T a' F 0 (lH (hZ (λj=>decide (j<i)) 0 rs 0 (H0.map λo _=>o)) r.u)=mu a' (hZ (λj=>(listed.setIfInBounds i true).getD j false) 0 rs 0 (H0.map λo _=>o)):=M0 (by cases r.u<;>simp[mu,CY,lH]) λj f x g1 g2=>by
    simp only[mu,List.getElem?_map] at g2;rw[oQ] at g2;cases h0:(H0.map λ(o:Own) (_:Act)=>o)[j]? with
    |none=>rw[h0] at g2;simp at g2
    |some f0=>
     rw[h0] at g2
     simp only[Option.map_some,Option.some.injEq,Nat.zero_add] at g2
     have VM:∀a a',f0 a=f0 a':=by
      rw[List.getElem?_map] at h0;cases hh:H0[j]? with
      |none=>rw[hh] at h0;simp at h0
      |some o0=>rw[hh] at h0;simp at h0;subst h0;intro _ _;rfl
     have rF:∀(C2:∀u,r.u=some u->u.k≠j),cellAt (λj=>(listed.setIfInBounds i true).getD j false) j 0 rs f0=cellAt (λj=>listed.getD j false) j 0 rs f0:=λC2=>Aw 0 rs f0 λj' r' u g3 g4 g5=>by
      rw[Nat.zero_add,jC,if_neg];intro e;subst e;rw[yn] at g3;cases g3;exact C2 u g4 g5
     cases hT:r.T.contains j with
     |true=>
      simp only[cond_true]
      rw[<-g2]
      have GA:j∈r.T:=by simpa using hT
      cases hu:r.u with
      |none=>
       rw[hu] at g1
       simp only[lH] at g1
       rw[oQ,h0] at g1
       simp only[Option.map_some,Option.some.injEq,Nat.zero_add] at g1
       rw[rF (λu e=>by rw[hu] at e;cases e),<-Gz j GA,g1]
      |some u=>
       rw[hu] at g1
       simp only[lH] at g1
       by_cases hk:u.k=j
       .subst hk
        have oM:u.k<(hZ (λj=>decide (j<i)) 0 rs 0 (H0.map λo _=>o)).length:=by
         rw[CY];exact(List.getElem?_eq_some_iff.1 h0).1
        rw[List.getElem?_set_self oM] at g1
        cases g1
        rw[MT 0 rs f0 i r u yn hu rfl (by rw[Nat.zero_add,jC];simp) λj' r' u' g3 g4 g5 g6=>?_]
        have:=x3 u.k GA j' r' u' g3 om g4 g5
        rw[if_neg om] at this
        rw[Nat.zero_add,jC,if_neg om]
        exact vY j' this
       rw[List.getElem?_set_ne hk,oQ,h0] at g1
       simp only[Option.map_some,Option.some.injEq,Nat.zero_add] at g1
       rw[rF (λu' e=>by rw[hu] at e;cases e;exact hk),<-Gz j GA,g1]
     |false=>
      simp only[cond_false]
      rw[<-g2]
      have C2:∀u,r.u=some u->u.k≠j:=λu hu e=>by
       have:=VI u hu;rw[e] at this;have:r.T.contains j=true:=by simpa using this
       rw[hT] at this;cases this
      rw[rF C2]
      have g3:HS[j]?=some (cellAt (λi=>listed.getD i false) j 0 rs f0):=by
       have:=oQ (S:=λi=>listed.getD i false) (i:=0) (rs:=rs) 0 (H0.map λ(o:Own) (_:Act)=>o) j;rw[h0,Nat.zero_add] at this;exact this
      simp only[F,g3]
      refine(MU 0 rs f0 (VM a' a) λj' r' u' g4 g5 g6=>ix j' r' u' g4 g5 a' a λd hd=>AA d λe=>?_)
      rw[Nat.zero_add] at g6
      by_cases jA:i=j'
      .subst jA;have AB:listed.getD i false=true:=g6;rw[h1] at AB;cases AB
      have AB:listed.getD j' false=true:=g6
      rw[vY j' (VD fX ym e (C1 g4) g5 jA hd)] at AB;cases AB
   rw[dO] at h';have Al:fA c.F c.I c.W I' w':=⟨Im.le_trans U.step.le h'.step.le,λb hb hf=>(h'.step.gL b hb hf).trans (U.step.gL b hb hf),h'.step.dp,h'.step.below⟩;refine⟨Al,h'.own,?_,h'.size,h'.defers⟩;intro t y e;by_cases s0:o.dst=some t
   .have uu:(i,t,r.x)∈(ff 0 pre rs).reverse:=by
     rw[List.mem_reverse];have:=Vx s0 (k:=0) jP yn;rwa[Nat.zero_add] at this
    rw[FY (i:=i) (x:=r.x) _ hL uu (by simp only[jC];simp) (λe he hp qt=>?_)] at e
    .cases e;exact h'.env t r.x (by rw[s0];simp[lW,Env.get])
    obtain⟨o',k1,k2⟩:=rK e he;by_cases hle:e.1<=i
    .exact hle
    have aZ:i≠e.1:=by omega
    have:=CW t (by unfold slotsOf;rw[List.mem_append];exact .inl (by simp[s0])) e.1 o' k1 aZ (by rw[k2,qt]);rw[if_neg om] at this;have VN:¬e.1=i:=λh=>aZ h.symm;rw[jC,if_neg VN,vY e.1 this] at hp;cases hp
   rw[Aa (q:=λe=>listed.getD e.1 false) _ (λe he qt=>?_)] at e
   .have:=U.env t y e;rw[AA t s0];exact y.up _ _ _ h'.step.le this
   obtain⟨o',k1,k2⟩:=rK e he;have aZ:e.1≠i:=λh=>by
    rw[h,jP] at k1;cases k1;exact s0 (by rw[k2,qt])
   simp only[jC,if_neg aZ]
  let Q':Exit->Act->World->Prop:=λe a' w'=>match e with
   |.normal=>∃I',St ⟨c.W,I,c.n,c.F⟩ I' (eo r.T a' F 0 (lH (hZ (λj=>decide (j<i)) 0 rs 0 (H0.map λo _=>o)) r.u)) (lW o.dst r.x ((eZ ((ff 0 pre rs).reverse.filter λe=>decide (e.1<i))++Γ).only (o.looksAt (pre++tail).toArray))) a' w'
   |e=>Q e a' w'
  have hQ:∀e a w,e≠.normal->Q' e a w->Q e a w:=λe a w hn h=>by
   cases e<;>first|exact absurd rfl hn|exact h
  have kG:=jd F (c.W,c.F) I I a w Q' VL λI' a' w' h'=>⟨I',h'⟩
  unfold wpOp
  simp only[h2]
  unfold wpList at kG
  by_cases hw:Region.wanted o (yielded (pre++tail).toArray a.tmps)=true
  .rw[if_pos hw] at kG⊢
   rcases kG with kG|⟨h5,h6⟩
   .exact .inl (Oper.wp_mono (λa' w' h=>h) (Oper.wp_mono (λa' w' ⟨hv,I',h'⟩=>pE I' a' w' hv h') (VE hQ kG)))
   exact .inr ⟨h5,let⟨a,w,h⟩:=h6;⟨a,w,hQ _ a w bt h⟩⟩
  rw[if_neg hw] at kG⊢
  obtain⟨I',h'⟩:=kG
  exact pE I' _ w ⟨undef,rfl⟩ h'
def aK (P:Program) (c:Ctx) (ops:Array Oper) (Q:Exit->Act->World->Prop) (Γ:Env) (H:List (Act->Own)) (os:List Oper) (ms:Meta):Prop:=
 ∃rs,rs.map Rec.lX=ms/\wb P c.n ops Γ H os rs/\∀I' a' w',St c I' (mu a' (Ax H rs)) (wc Γ os rs) a' w'->Q .normal a' w'
def aK.nil {ops:Array Oper} {Hf:List (Act->Own)} (k:∀I' a' w',St c I' (mu a' Hf) Γ a' w'->Q .normal a' w'):aK P c ops Q Γ Hf [] []:=⟨[],rfl,trivial,k⟩
def aK.cons {ops:Array Oper} {Hf:List (Act->Own)} {o:Oper} {os:List Oper} {x:AV} {T:List Nat} {u:Option oP} {ms:Meta} (hu:∀v,u=some v->v.fit) (h:CZ P c.n ops Hf (lH Hf u) T (Γ.only (o.looksAt ops)) o x) (k:aK P c ops Q (lW o.dst x Γ) (lH Hf u) os ms):
 aK P c ops Q Γ Hf (o::os) ((T,u.map λu=>(u.k,u.aR))::ms):=
 let⟨rs,h1,h2,h3⟩:=k;⟨⟨x,T,u⟩::rs,by simp[Rec.lX,h1],⟨h,hu,h2⟩,h3⟩
def St.M2 {id:Nat} {pre tail:List Oper} {rs:List Rec} (U:St c I H Γ a w) (hm:P.follows .mixedOrders=true) (fX:Ay pre tail (rs.map Rec.lX)=true) (hd:(pre.all λo=>match o.dst with|some d=>Nat.blt d c.n|none=>true)=true)
 (run:wb P c.n (pre++tail).toArray Γ (H.map λo _=>o) pre rs) (k:∀I' a' w',St c I' (mu a' (Ax (H.map λo _=>o) rs)) (wc Γ pre rs) a' w'->wpList P (pre++tail).toArray Q tail a' w'):(Code.region id (pre++tail).toArray true).wp P Q a w:=by
 refine wp_region_any hm ?_;obtain⟨hlen,ix,jd⟩:=wb.at (Γ0:=Γ) pre rs 0 _ [] (by simpa[eZ] using run) (λe he=>by simp at he);have hf:∀i:Nat,(Array.replicate (pre++tail).length false).getD i false=false:=λi=>by
  rw[Array.getD_eq_getD_getElem?,Array.getElem?_replicate];split<;>rfl
 have:=VG (P:=P) (c:=c) (H0:=H) (Γ:=Γ) (Q:=Q) fX hlen hd ix (λi o r ho hr=>by simpa using jd i o r ho hr) (λI' a' w' h=>by
  rw[<-MY,<-MZ] at h;exact k I' a' w' h) (pre++tail).length (Array.replicate (pre++tail).length false) I a {w with drawn:=w.drawn+1} bt
  (by simpa using List.length_filter_le _ (List.range (pre++tail).length)) (λi hi h=>by rw[hf] at h;cases h) (λi o ho hi=>by rw[hf] at hi;cases hi) (by
    have he:(ff 0 pre rs).reverse.filter (λe=>(Array.replicate (pre++tail).length false).getD e.1 false)=[]:=by
     rw[List.filter_eq_nil_iff];intro e _;rw[hf];simp
    have hh:mu a (hZ (λi=>(Array.replicate (pre++tail).length false).getD i false) 0 rs 0 (H.map λo _=>o))=H:=by
     rw[MW λj _=>hf j];simp[mu,Function.comp_def]
    rw[he,hh];exact⟨⟨U.step.le,U.step.gL,U.step.dp,U.step.below.drew⟩,⟨λo ho=>⟨o.hO I I w _ (Im.le_refl I) (λ_ _=>rfl) (U.own.all o ho).1,(U.own.all o ho).2⟩,U.own.apart⟩,U.env,U.size,U.defers⟩)
 simpa using this
def St.dh {id:Nat} {l:List Oper} (ms:Meta) (U:St c I H Γ a w) (hm:P.follows .mixedOrders=true) (fX:qu l ms=true) (hd:(l.all λo=>match o.dst with|some d=>Nat.blt d c.n|none=>true)=true)
 (run:aK P c l.toArray Q Γ (H.map λo _=>o) l ms):(Code.region id l.toArray true).wp P Q a w:=by
 obtain⟨rs,h0,run,k⟩:=run;subst h0;have:=U.M2 (id:=id) (Q:=Q) (pre:=l) (tail:=[]) (rs:=rs) hm (by simpa[Ay] using fX) hd (by rw[List.append_nil];exact run) λI' a' w' h=>wpList_nil (k I' a' w' h);rwa[List.append_nil] at this
end
def M3 {a a':Act} {F:Nat->Own} {Hf:List (Act->Own)}:eo [] a F 0 Hf=eo [] a' F 0 Hf:=by
 apply List.ext_getElem?;intro j;rw[wa,wa];rfl
def mw {k:Nat} {a a':Act} {F:Nat->Own} {Hf:List (Act->Own)} {f:Act->Own} {O:Own} (h:O=f a'):(eo [k] a F 0 Hf).set k O=eo [k] a' F 0 (Hf.set k f):=by
 apply List.ext_getElem?;intro j;rw[wa,List.getElem?_set,List.getElem?_set,wa];have hl:(eo [k] a F 0 Hf).length=Hf.length:=by
  have:∀(n:Nat) (L:List (Act->Own)),(eo [k] a F n L).length=L.length:=by
   intro n L;induction L generalizing n with
   |nil=>rfl
   |cons x L ih=>simp[eo,ih]
  exact this 0 Hf
 rw[hl];by_cases hk:k=j
 .subst hk;by_cases bK:k<Hf.length
  .simp[bK,h]
  simp[bK]
 rw[if_neg hk,if_neg hk];have hc:([k].contains (0+j))=false:=by simp;omega
 rw[hc];rfl
section
variable {P:Program} {c:Ctx} {I:Im} {H:List Own} {Γ:Env} {a:Act} {w:World} {Q:Exit->Act->World->Prop} {ops:Array Oper} {Hf:List (Act->Own)} {os:List Oper} {ms:Meta}
def St.pass {H':List Own} (U:St c I H Γ a w) (h:H=H'):St c I H' Γ a w:=h▸U
def aK.op {o:Oper} {d:Nat} {x:AV} (hg:o.guard=none) (ho:o.dst=some d) (hd:Nat.blt d c.n=true) (h:∀F a,Ok P (eo [] a F 0 Hf) (Γ.only (o.looksAt ops)) true o x)
 (k:aK P c ops Q ((d,x)::Γ) Hf os ms):aK P c ops Q Γ Hf (o::os) (([],none)::ms):=
 aK.cons (u:=none) (x:=x) (λv e=>by cases e) (λF W0 I0 I a w Q U kk=>U.op hg ho hd (h F a) λI' a' w' bW=>kk I' a' w' (by rw[ho];exact bW.pass M3)) (by rw[ho];exact k)
def aK.CG {o:Oper} {d:Nat} {x:AV} {G:Bool} (hg:jb ops (Γ.only (o.looksAt ops)) o G) (ho:o.dst=some d) (hd:Nat.blt d c.n=true) (h:∀F a,Ok P (eo [] a F 0 Hf) (Γ.only (o.looksAt ops)) G o x)
 (k:aK P c ops Q ((d,.cond G x)::Γ) Hf os ms):aK P c ops Q Γ Hf (o::os) (([],none)::ms):=
 aK.cons (u:=none) (x:=.cond G x) (λv e=>by cases e) (λF W0 I0 I a w Q U kk=>U.CG hg ho hd (h F a) λI' a' w' bW=>kk I' a' w' (by rw[ho];exact bW.pass M3)) (by rw[ho];exact k)
def aK.VO {o:Oper} {d:Nat} {x:AV} (T:List Nat) (hc:∀F a a',eo T a F 0 Hf=eo T a' F 0 Hf) (hg:o.guard=none) (ho:o.dst=some d) (hd:Nat.blt d c.n=true) (h:∀F a,Ok P (eo T a F 0 Hf) (Γ.only (o.looksAt ops)) true o x)
 (k:aK P c ops Q ((d,x)::Γ) Hf os ms):aK P c ops Q Γ Hf (o::os) ((T,none)::ms):=
 aK.cons (u:=none) (x:=x) (λv e=>by cases e) (λF W0 I0 I a w Q U kk=>U.op hg ho hd (h F a) λI' a' w' bW=>kk I' a' w' (by rw[ho];exact bW.pass (hc F a a'))) (by rw[ho];exact k)
def aK.cX {o:Oper} {x:AV} {O:Own} (k:Nat)
 (h:∀(F:Nat->Own) (W0:World×(Nat->Prop)) (I0 I:Im) (a:Act) (w:World) (Q:Exit->Act->World->Prop),St ⟨W0.1,I0,c.n,W0.2⟩ I (eo [k] a F 0 Hf) (Γ.only (o.looksAt ops)) a w->
   (∀I' a' w',St ⟨W0.1,I0,c.n,W0.2⟩ I' ((eo [k] a F 0 Hf).set k O) (lW o.dst x (Γ.only (o.looksAt ops))) a' w'->wpList P ops Q [] a' w')->wpList P ops Q [o] a w)
 (r:aK P c ops Q (lW o.dst x Γ) (Hf.set k λ_=>O) os ms):aK P c ops Q Γ Hf (o::os) (([k],some (k,[]))::ms):=
 aK.cons (u:=some ⟨k,[],λ_=>O⟩) (x:=x) (λv e=>by cases e;intro _ _ _;rfl) (λF W0 I0 I a w Q U kk=>h F W0 I0 I a w Q U λI' a' w' bW=>kk I' a' w' (bW.pass (mw rfl))) r
def St.s8 {x:Own} (k:Nat) (U:St c I (H++[x]) Γ a w) (hk:H[k]?=some Own.gone):St c I (H.set k x) Γ a w:=by
 refine⟨U.step,⟨λo ho=>?_,?_⟩,U.env,U.size,U.defers⟩
 .rcases List.mem_or_eq_of_mem_set ho with ho|rfl
  .exact U.own.all o (List.mem_append_left _ ho)
  exact U.own.all _ bt
 have hn:=U.own.apart;rw[List.pairwise_append] at hn;refine rE hn.1 λb hb=>.inr λy hy e=>?_;exact hn.2.2 y hy x bt b e hb
def St.gF (U:St c I H Γ a w):St c I (H++[Own.gone]) Γ a w:=
 ⟨U.step,⟨λy hy=>by
  rcases List.mem_append.1 hy with hy|hy
  .exact U.own.all y hy
  .obtain rfl:=by simpa using hy
   exact⟨trivial,λb e=>by cases e⟩,
  by rw[List.pairwise_append];exact⟨U.own.apart,by simp,λy _ z hz b _ e=>by obtain rfl:z=_:=List.mem_singleton.1 hz;exact e.elim⟩⟩,U.env,U.size,U.defers⟩
def kh {k:Nat} {a:Act} {F:Nat->Own} {f:Act->Own} (h:Hf[k]?=some f):(eo [k] a F 0 Hf)[k]?=some (f a):=by
 rw[wa,h];simp
variable {T T' E ty:TypeId} {p:String} {af:Array Edge} {ag:Bool} {n m d:Nat} {zv:Value} {l lx:List AV} {z y:Operand}
def C3 {a:Act} {b:Nat} (h:a.tmps.getD d undef=.pointer (some ⟨b,0,none⟩)):oO T l (a.tmps.getD d undef)=Own.box b T l:=by rw[h];rfl
def ta {k:Nat} {g:Value->Own} (h:∀v v',v=v'->g v=g v'):∀v,(some (⟨k,[d],λa=>g (a.tmps.getD d undef)⟩:oP))=some v->v.fit:=λv e=>by
 cases e;intro a a' hh;exact h _ _ (hh d bt)
def aK.alloc (k:Nat) (hk:Hf[k]?=some λ_=>Own.gone) (hd:Nat.blt d c.n=true) (hT:Ty P T ag n m zv) (hz:∀I,bx I l zv.cells.toList)
 (r:aK P c ops Q ((d,AV.v8)::Γ) (Hf.set k λa=>oO T l (a.tmps.getD d undef)) os ms):aK P c ops Q Γ Hf (⟨some d,.alloc T,ty,p,af,none⟩::os) (([k],some (k,[d]))::ms):=
 aK.cons (u:=some ⟨k,[d],λa=>oO T l (a.tmps.getD d undef)⟩) (x:=AV.v8) (ta λv v' e=>e▸rfl) (λF W0 I0 I a w Q U kk=>U.alloc hd hT hz λb I' a' w' bW=>by
  have hv:a'.tmps.getD d undef=.pointer (some ⟨b,0,none⟩):=bW.env d (.val (.pointer (some ⟨b,0,none⟩))) (by simp[Env.get]);refine kk I' a' w' ?_;have h1:=(bW.s8 k (kh hk)).pass (mw (f:=λa=>oO T l (a.tmps.getD d undef)) (C3 hv).symm);exact⟨h1.step,h1.own,λt x e=>by
   simp only[lW,Env.get] at e;cases hb:Nat.beq d t with
   |true=>
    rw[hb] at e;simp only[cond_true] at e;cases e
    obtain rfl:d=t:=Nat.eq_of_beq_eq_true hb
    exact⟨b,hv⟩
   |false=>rw[hb] at e;exact h1.env t x (by simp only[Env.get,hb];exact e),h1.size,h1.defers⟩) r
def aK.qv (k:Nat) (hk:Hf[k]?=some λa=>oO T' l (a.tmps.getD d undef)) (hT:Ty P T true n m zv) (hy:Env.get d (Γ.only ((⟨none,.store T (.tmp d) z,ty,p,af,none⟩:Oper).looksAt ops))=some AV.v8)
 (hz:At (Γ.only ((⟨none,.store T (.tmp d) z,ty,p,af,none⟩:Oper).looksAt ops)) true z (.agg lx)) (hn:lx.length=n) (hl:l.length=n)
 (r:aK P c ops Q Γ (Hf.set k λa=>oO T' lx (a.tmps.getD d undef)) os ms):aK P c ops Q Γ Hf (⟨none,.store T (.tmp d) z,ty,p,af,none⟩::os) (([k],some (k,[d]))::ms):=
 aK.cons (u:=some ⟨k,[d],λa=>oO T' lx (a.tmps.getD d undef)⟩) (x:=AV.any) (ta λv v' e=>e▸rfl) (λF W0 I0 I a w Q U kk=>by
  obtain⟨b,hb⟩:=U.env d _ hy;obtain⟨cs,hv,Ag⟩:=hz I a U.env rfl;have eX:=kh (a:=a) (F:=F) hk;rw[C3 hb] at eX;obtain⟨w',hr,bW⟩:=U.CL (q:=0) (lx:=lx) (v:=a.eval z) k hT eX (by rw[hv];exact Ag) hn (by rw[hl];simp);have e:eI l 0 lx=lx:=by simp[eI];omega
  rw[e] at bW;exact jc rfl (vL hb rfl hr (kk I _ w' (bW.pass (mw (f:=λa=>oO T' lx (a.tmps.getD d undef)) (C3 hb).symm))))) r
def St.my (k:Nat) (U:St c I H Γ a w) (hd:Env.get d Γ=some AV.v8) (hk:H[k]?=some (oO T l (a.tmps.getD d undef))):∃b,St c I (H.set k (Own.box b T l)) ((d,.val (.pointer (some ⟨b,0,none⟩)))::Γ) a w:=by
 obtain⟨b,hb⟩:∃b,a.tmps.getD d undef=.pointer (some ⟨b,0,none⟩):=U.env d _ hd;rw[C3 hb] at hk;have e:H.set k (Own.box b T l)=H:=by
  apply List.ext_getElem?;intro j;rw[List.getElem?_set];split
  .rename_i e;subst e;rw[hk];simp[(List.getElem?_eq_some_iff.1 hk).1]
  rfl
 refine⟨b,U.step,by rw[e];exact U.own,λt x e=>?_,U.size,U.defers⟩;simp only[Env.get] at e;cases lG:Nat.beq d t with
 |true=>
  rw[lG] at e;simp only[cond_true] at e;cases e
  obtain rfl:d=t:=Nat.eq_of_beq_eq_true lG
  exact hb
 |false=>rw[lG] at e;exact U.env t x (by simpa using e)
def aK.M4 {v:Value} {sz:Nat} {l l2:List (List AV)} (k:Nat) (hk:Hf[k]?=some λ_=>Own.row v E sz l) (hd:Nat.blt d c.n=true) (hU:P.underlying T=some (.slice E)) (hE:Ty P E ag sz m zv) (fW:zv.cells.size=sz)
 (hy:At (Γ.only ((⟨some d,.call ⟨.builtin .append,#[y,z],#[T,T]⟩,ty,p,af,none⟩:Oper).looksAt ops)) true y (.val v)) (hz:At (Γ.only ((⟨some d,.call ⟨.builtin .append,#[y,z],#[T,T]⟩,ty,p,af,none⟩:Oper).looksAt ops)) true z (.rows sz l2))
 (hb:(l.length+l2.length)*m<=140737488355328/\l.length+l2.length<=140737488355328)
 (r:aK P c ops Q ((d,.rows sz (l++l2))::Γ) (Hf.set k λ_=>Own.gone) os ms):aK P c ops Q Γ Hf (⟨some d,.call ⟨.builtin .append,#[y,z],#[T,T]⟩,ty,p,af,none⟩::os) (([k],some (k,[]))::ms):=
 aK.cons (u:=some ⟨k,[],λ_=>Own.gone⟩) (x:=.rows sz (l++l2)) (λv e=>by cases e;intro _ _ _;rfl) (λF W0 I0 I a w Q U kk=>U.append k hd hU hE fW hy hz (kh hk) hb λv' a' w' bW=>by
  obtain⟨I',et,hf⟩:=bW.rI k (by rw[List.getElem?_set_self (List.getElem?_eq_some_iff.1 (kh (a:=a) (F:=F) hk)).1]);rw[List.set_set] at et;have kH:=et.vP (t:=d) (by simp[Env.get]) hf;refine kk I' a' w' ((kH.le λt x e=>?_).pass (mw rfl));simp only[lW,Env.get] at e⊢;cases lG:Nat.beq d t with
  |true=>rw[lG] at e;exact e
  |false=>rw[lG] at e;simpa using e) r
def aK.C4 {d':Nat} {sz:Nat} {l l2:List (List AV)} (k:Nat) (hk:Hf[k]?=some λa=>Own.row (a.tmps.getD d' undef) E sz l) (hd:Nat.blt d c.n=true) (hU:P.underlying T=some (.slice E)) (hE:Ty P E ag sz m zv) (fW:zv.cells.size=sz)
 (hz:At (Γ.only ((⟨some d,.call ⟨.builtin .append,#[.tmp d',z],#[T,T]⟩,ty,p,af,none⟩:Oper).looksAt ops)) true z (.rows sz l2))
 (hb:(l.length+l2.length)*m<=140737488355328/\l.length+l2.length<=140737488355328)
 (r:aK P c ops Q ((d,.rows sz (l++l2))::Γ) (Hf.set k λ_=>Own.gone) os ms):aK P c ops Q Γ Hf (⟨some d,.call ⟨.builtin .append,#[.tmp d',z],#[T,T]⟩,ty,p,af,none⟩::os) (([k],some (k,[]))::ms):=
 aK.cons (u:=some ⟨k,[],λ_=>Own.gone⟩) (x:=.rows sz (l++l2)) (λv e=>by cases e;intro _ _ _;rfl) (λF W0 I0 I a w Q U kk=>by
  have eX:=kh (a:=a) (F:=F) hk;obtain⟨v',w',hr,bW⟩:=U.CN (ty:=ty) k hU hE fW eX (hz I a U.env rfl) hb.1 (by simp only[maxLen];omega);refine jc rfl ?_;unfold Oper.wp;have e1:a.eval (.tmp d')=a.tmps.getD d' undef:=rfl;simp only[execOp,resolve,invoke,builtin,Sem.run_bind,Sem.run_pure,Result.andThen_ok,List.map_toArray,List.map_cons,List.map_nil,e1,hr];have uB:=bW.m8 bW.step (Im.le_refl _) bW.own hd (x:=.val v') rfl;obtain⟨I',et,hf⟩:=uB.rI k (by rw[List.getElem?_set_self (List.getElem?_eq_some_iff.1 eX).1]);rw[List.set_set] at et;have kH:=et.vP (t:=d) (by simp[Env.get]) hf;refine kk I' _ w' ((kH.le λt x e=>?_).pass (mw rfl));simp only[lW,Env.get] at e⊢;cases lG:Nat.beq d t with
  |true=>rw[lG] at e;exact e
  |false=>rw[lG] at e;simpa using e) r
def AV.lY:AV:=⟨λ_ v=>v.oneCell'=true,λ_ _ _ _ h=>h⟩
def aK.C5 {v:Value} {sz:Nat} {l l2:List (List AV)} (k:Nat) (hk:Hf[k]?=some λ_=>Own.row v E sz l) (hd:Nat.blt d c.n=true) (hU:P.underlying T=some (.slice E)) (hE:Ty P E ag sz m zv) (fW:zv.cells.size=sz)
 (hy:At (Γ.only ((⟨some d,.call ⟨.builtin .append,#[y,z],#[T,T]⟩,ty,p,af,none⟩:Oper).looksAt ops)) true y (.val v)) (hz:At (Γ.only ((⟨some d,.call ⟨.builtin .append,#[y,z],#[T,T]⟩,ty,p,af,none⟩:Oper).looksAt ops)) true z (.rows sz l2))
 (hb:(l.length+l2.length)*m<=140737488355328/\l.length+l2.length<=140737488355328)
 (r:aK P c ops Q ((d,AV.lY)::Γ) (Hf.set k λa=>Own.row (a.tmps.getD d undef) E sz (l++l2)) os ms):aK P c ops Q Γ Hf (⟨some d,.call ⟨.builtin .append,#[y,z],#[T,T]⟩,ty,p,af,none⟩::os) (([k],some (k,[d]))::ms):=
 aK.cons (u:=some ⟨k,[d],λa=>Own.row (a.tmps.getD d undef) E sz (l++l2)⟩) (x:=AV.lY) (ta (g:=λv=>Own.row v E sz (l++l2)) λv v' e=>e▸rfl) (λF W0 I0 I a w Q U kk=>U.append k hd hU hE fW hy hz (kh hk) hb λv' a' w' bW=>by
  have hv:a'.tmps.getD d undef=v':=bW.env d (.val v') (by simp[Env.get]);have we:=bW.own.all (Own.row v' E sz (l++l2)) (List.mem_of_getElem? (i:=k) (by rw[List.getElem?_set_self (List.getElem?_eq_some_iff.1 (kh (a:=a) (F:=F) hk)).1]));have h1:=bW.pass (mw (a':=a') (f:=λa=>Own.row (a.tmps.getD d undef) E sz (l++l2)) (by rw[hv]));exact kk I a' w' ⟨h1.step,h1.own,λt x e=>by
   simp only[lW,Env.get] at e;cases hb:Nat.beq d t with
   |true=>
    rw[hb] at e;simp only[cond_true] at e;cases e
    obtain rfl:d=t:=Nat.eq_of_beq_eq_true hb
    show(a'.tmps.getD d undef).oneCell'=true
    rw[hv]
    obtain⟨_,⟨_,rfl|⟨q,rfl,_⟩⟩|⟨b,cap,cur,rfl,_⟩⟩:=we.1<;>rfl
   |false=>rw[hb] at e;exact h1.env t x (by simp only[Env.get,hb];exact e),h1.size,h1.defers⟩) r
def aK.AD {d' b q:Nat} {l:List AV} (k:Nat) (hk:Hf[k]?=some λ_=>Own.box b T' l) (hT:Ty P T false 1 m zv) (hy:At (Γ.only ((⟨none,.store T y (.tmp d'),ty,p,af,none⟩:Oper).looksAt ops)) true y (.val (.pointer (some ⟨b,q,none⟩))))
 (hz:Env.get d' (Γ.only ((⟨none,.store T y (.tmp d'),ty,p,af,none⟩:Oper).looksAt ops))=some AV.lY) (hq:Nat.blt q l.length=true)
 (r:aK P c ops Q Γ (Hf.set k λa=>Own.box b T' (l.set q (.val (a.tmps.getD d' undef)))) os ms):aK P c ops Q Γ Hf (⟨none,.store T y (.tmp d'),ty,p,af,none⟩::os) (([k],some (k,[d']))::ms):=
 aK.cons (u:=some ⟨k,[d'],λa=>Own.box b T' (l.set q (.val (a.tmps.getD d' undef)))⟩) (x:=AV.any) (ta (g:=λv=>Own.box b T' (l.set q (.val v))) λv v' e=>e▸rfl) (λF W0 I0 I a w Q U kk=>by
  have hb:=hy I a U.env rfl;have h1:(a.tmps.getD d' undef).oneCell'=true:=U.env d' _ hz;have hc:=Ae h1;have Ml:q<l.length:=by simpa using hq
  obtain⟨w',hr,bW⟩:=U.CL (q:=q) (lx:=[.val (a.tmps.getD d' undef)]) (v:=a.tmps.getD d' undef) k hT (kh hk) (by rw[hc];exact⟨⟨rfl,h1⟩,trivial⟩) rfl fT;rw[Mm Ml] at bW;exact jc rfl (vL hb rfl hr (kk I _ w' (bW.pass (mw (f:=λa=>Own.box b T' (l.set q (.val (a.tmps.getD d' undef)))) rfl))))) r
def AV.bare:AV:=⟨λ_ v=>vG v,λ_ _ _ _ h=>h⟩
def tb {H:List Own} {g:Bool} {d:Option Tmp} {gd:Option (Nat×Bool)} {sz:Nat} (hT:P.underlying T=some (.slice E)) (hE:Ty P E ag sz m zv):Ok P H Γ g ⟨d,.buildSlice T 0 #[],ty,p,af,gd⟩ AV.bare:=
 λbase I a w K Q he hm hw hg k=>by
  have gD:(sizeOf E).run P w=.ok sz w:=hE.size;have hr:(Instr.buildSlice T 0 ((#[]:Array (Nat×Operand)).map λ(i,x)=>(i,a.eval x))).run P w=.ok (.slice (some ⟨w.heap.size,0,none⟩) 0 0) (w.alloc (.cells #[] E)):=by
   simp only[Instr.buildSlice,Sem.run_bind,run_underlying hT,Result.andThen_ok,gD];have e0:Array.range 0=#[]:=rfl;simp[Instr.fill,CR,e0]
  unfold Oper.wp;simp only[execOp,Sem.run_bind,hr,Result.andThen_ok,Sem.run_pure,Oper.upon_value];exact k _ I _ (.inr ⟨⟨w.heap.size,0,none⟩,rfl,rfl⟩) (Step.alloc hm (.cells #[] E))
def AE {H:List Own} {g:Bool} {d:Option Tmp} {gd:Option (Nat×Bool)} {sz:Nat} {l2:List (List AV)} (hU:P.underlying T=some (.slice E)) (hE:Ty P E ag sz m zv) (fW:zv.cells.size=sz) (hy:At Γ g y AV.bare) (hz:At Γ g z (.rows sz l2)) (hb:g=true->l2.length*m<=140737488355328/\l2.length<=140737488355328):
 Ok P H Γ g ⟨d,.call ⟨.builtin .append,#[y,z],#[T,T]⟩,ty,p,af,gd⟩ (.rows sz l2):=
 λbase I a w K Q he hm hw hg k=>by
  have sW:vG (a.eval y):=hy I a he hg;have C6:St ⟨w,I,0,kx⟩ I [] [] {tmps:=#[],defers:=[]} w:=⟨fA.refl hm,bX.nil _ _ _,λt x e=>by simp[Env.get] at e,rfl,rfl⟩;have gD:=C6.CM (sz:=sz) E sW;obtain⟨v',w',hr,et⟩:=gD.CN (ty:=ty) 0 hU hE fW rfl (hz I a he hg) (by simpa using(hb hg).1) (by have:=(hb hg).2;simp only[maxLen];simp;omega);obtain⟨I',kH,hv⟩:=et.rI 0 rfl;unfold Oper.wp;simp only[execOp,resolve,invoke,builtin,Sem.run_bind,Sem.run_pure,Result.andThen_ok,List.map_toArray,List.map_cons,List.map_nil,hr];exact k v' I' w' hv kH.step.all
def aK.AF {sz:Nat} {l2:List (List AV)} (k:Nat) (hk:Hf[k]?=some λ_=>Own.gone) (hd:Nat.blt d c.n=true) (hU:P.underlying T=some (.slice E)) (hE:Ty P E ag sz m zv) (fW:zv.cells.size=sz)
 (hy:At (Γ.only ((⟨some d,.call ⟨.builtin .append,#[y,z],#[T,T]⟩,ty,p,af,none⟩:Oper).looksAt ops)) true y AV.bare) (hz:At (Γ.only ((⟨some d,.call ⟨.builtin .append,#[y,z],#[T,T]⟩,ty,p,af,none⟩:Oper).looksAt ops)) true z (.rows sz l2))
 (hb:l2.length*m<=140737488355328/\l2.length<=140737488355328)
 (r:aK P c ops Q ((d,AV.lY)::Γ) (Hf.set k λa=>Own.row (a.tmps.getD d undef) E sz l2) os ms):aK P c ops Q Γ Hf (⟨some d,.call ⟨.builtin .append,#[y,z],#[T,T]⟩,ty,p,af,none⟩::os) (([k],some (k,[d]))::ms):=
 aK.cons (u:=some ⟨k,[d],λa=>Own.row (a.tmps.getD d undef) E sz l2⟩) (x:=AV.lY) (ta (g:=λv=>Own.row v E sz l2) λv v' e=>e▸rfl) (λF W0 I0 I a w Q U kk=>by
  have sW:vG (a.eval y):=hy I a U.env rfl;have hlen:=List.getElem?_eq_some_iff.1 (kh (a:=a) (F:=F) hk);have gD:=(U.CM (sz:=sz) E sW).s8 k (kh (a:=a) (F:=F) hk);have rL:((eo [k] a F 0 Hf).set k (Own.row (a.eval y) E sz []))[k]?=some (Own.row (a.eval y) E sz []):=by rw[List.getElem?_set_self hlen.1]
  obtain⟨v',w',hr,bW⟩:=gD.CN (ty:=ty) k hU hE fW rL (hz I a U.env rfl) (by simpa using hb.1) (by simp only[maxLen];simp;omega);rw[List.set_set,List.nil_append] at bW;refine jc rfl ?_;unfold Oper.wp;simp only[execOp,resolve,invoke,builtin,Sem.run_bind,Sem.run_pure,Result.andThen_ok,List.map_toArray,List.map_cons,List.map_nil,hr];have we:=bW.own.all (Own.row v' E sz l2) (List.mem_of_getElem? (i:=k) (by rw[List.getElem?_set_self hlen.1]));have h1:v'.oneCell'=true:=by
   obtain⟨_,⟨_,rfl|⟨q,rfl,_⟩⟩|⟨b,cap,cur,rfl,_⟩⟩:=we.1<;>rfl
  have uB:=bW.m8 (d:=d) (v:=v') (x:=AV.lY) bW.step (Im.le_refl _) bW.own hd h1;refine kk I _ w' (uB.pass (mw (a':=a.put (some d) v') (f:=λa=>Own.row (a.tmps.getD d undef) E sz l2) ?_));have:(a.put (some d) v').tmps.getD d undef=v':=by
   have j0:d<c.n:=by simpa using hd
   have cN:=U.size;simp[Act.put,cN,j0]
  rw[this]) r
end
end Go.Proofs.YtdanidpleofjgaaGreat
