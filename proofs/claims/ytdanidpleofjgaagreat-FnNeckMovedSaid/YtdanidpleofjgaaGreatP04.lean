/- Part 4: rules of the proofs. -/
import Derived.Test.YtdanidpleofjgaaGreatP03
set_option linter.all false
namespace Go.Proofs.YtdanidpleofjgaaGreat
open Go Go.RowKit
structure oI where
 k:Nat
 aQ:List Nat
 f:Act->Own
structure Rec where
 x:AV
 T:List Nat
 u:Option oI
def oI.fit (u:oI):Prop:=∀a a':Act,(∀d∈u.aQ,a.tmps.getD d undef=a'.tmps.getD d undef)->u.f a=u.f a'
def np (d:Option Nat) (x:AV) (Γ:Env):Env:=match d with|some d=>(d,x)::Γ|none=>Γ
def mj (H:List (Act->Own)):Option oI->List (Act->Own)
 |none=>H
 |some u=>H.set u.k u.f
def cellAt (S:Nat->Bool) (k:Nat):Nat->List Rec->(Act->Own)->Act->Own
 |_,[],f=>f
 |i,r::rs,f=>cellAt S k (i+1) rs (match r.u with|none=>f|some u=>bif S i&&Nat.beq u.k k then u.f else f)
def iB (S:Nat->Bool) (i:Nat) (rs:List Rec):Nat->List (Act->Own)->List (Act->Own)
 |_,[]=>[]
 |k,f::fs=>cellAt S k i rs f::iB S i rs (k+1) fs
def eU (T:List Nat) (a:Act) (F:Nat->Own):Nat->List (Act->Own)->List Own
 |_,[]=>[]
 |k,f::fs=>(bif T.contains k then f a else F k)::eU T a F (k+1) fs
def nq (a:Act) (H:List (Act->Own)):List Own:=H.map λf=>f a
def oJ {S:Nat->Bool} {i:Nat} {rs:List Rec}:∀(k:Nat) (H:List (Act->Own)) (j:Nat),(iB S i rs k H)[j]?=(H[j]?).map (cellAt S (k+j) i rs)
 |_,[],j=>by simp[iB]
 |k,f::fs,0=>by simp[iB]
 |k,f::fs,j+1=>by
  simp only[iB,List.getElem?_cons_succ];rw[oJ (k+1) fs j];have e:k+1+j=k+(j+1):=by omega
  rw[e]
def wO {T:List Nat} {a:Act} {F:Nat->Own}:∀(k:Nat) (H:List (Act->Own)) (j:Nat),(eU T a F k H)[j]?=(H[j]?).map (λf=>bif T.contains (k+j) then f a else F (k+j))
 |_,[],j=>by simp[eU]
 |k,f::fs,0=>by simp[eU]
 |k,f::fs,j+1=>by
  simp only[eU,List.getElem?_cons_succ];rw[wO (k+1) fs j];have e:k+1+j=k+(j+1):=by omega
  rw[e]
def Dz {S:Nat->Bool} {i:Nat} {rs:List Rec}:∀(k:Nat) (H:List (Act->Own)),(iB S i rs k H).length=H.length
 |_,[]=>rfl
 |k,f::fs=>by simp[iB,Dz (k+1) fs]
def A4 {S S':Nat->Bool} {k:Nat}:∀(i:Nat) (rs:List Rec) (f:Act->Own),(∀(j:Nat) (r:Rec) (u:oI),rs[j]?=some r->r.u=some u->u.k=k->S (i+j)=S' (i+j))->cellAt S k i rs f=cellAt S' k i rs f
 |_,[],_,_=>rfl
 |i,r::rs,f,h=>by
  have ih:=λf=>A4 (S:=S) (S':=S') (k:=k) (i+1) rs f λj r' u h1 h2 h3=>by
   have:=h (j+1) r' u (by simpa using h1) h2 h3;have e:i+1+j=i+(j+1):=by omega
   rw[e];exact this
  simp only[cellAt];rw[ih];cases hu:r.u with
  |none=>rfl
  |some u=>
   simp only[]
   cases hb:Nat.beq u.k k with
   |false=>simp
   |true=>rw[show S i=S' i from h 0 r u rfl hu (Nat.eq_of_beq_eq_true hb)]
def Hp {S:Nat->Bool} {k:Nat}:∀(i:Nat) (rs:List Rec) (f:Act->Own),(∀j,i<=j->S j=false)->cellAt S k i rs f=f
 |_,[],_,_=>rfl
 |i,r::rs,f,h=>by
  simp only[cellAt];rw[Hp (i+1) rs _ λj hj=>h j om];cases r.u with
  |none=>rfl
  |some u=>simp[h i (Nat.le_refl _)]
def NG {S:Nat->Bool} {k:Nat}:∀(i:Nat) (rs:List Rec) (f:Act->Own) (j:Nat) (r:Rec) (u:oI),rs[j]?=some r->r.u=some u->u.k=k->S (i+j)=true->
 (∀(j':Nat) (r':Rec) (u':oI),rs[j']?=some r'->r'.u=some u'->u'.k=k->j<j'->S (i+j')=false)->cellAt S k i rs f=u.f
 |_,[],_,_,_,_,h,_,_,_,_=>by simp at h
 |i,r0::rs,f,0,r,u,h1,h2,h3,h4,h5=>by
  simp at h1;subst h1;simp only[cellAt,h2];have hb:Nat.beq u.k k=true:=by rw[h3];exact Nat.beq_refl k
  have WS:S i=true:=h4;rw[hb,WS];simp only[Bool.and_self,cond_true];have:=A4 (S:=S) (S':=λ_=>false) (k:=k) (i+1) rs u.f λj' r' u' g1 g2 g3=>by
   have:=h5 (j'+1) r' u' (by simpa using g1) g2 g3 om;rw[show i+1+j'=i+(j'+1) from by omega];exact this
  rw[this];exact Hp _ _ _ λ_ _=>rfl
 |i,r0::rs,f,j+1,r,u,h1,h2,h3,h4,h5=>by
  simp only[cellAt];exact NG (i+1) rs _ j r u (by simpa using h1) h2 h3 (by rw[show i+1+j=i+(j+1) from by omega];exact h4) λj' r' u' g1 g2 g3 g4=>by
   have:=h5 (j'+1) r' u' (by simpa using g1) g2 g3 om;rw[show i+1+j'=i+(j'+1) from by omega];exact this
def NH {S:Nat->Bool} {k:Nat} {a a':Act}:∀(i:Nat) (rs:List Rec) (f:Act->Own),f a=f a'->(∀(j:Nat) (r:Rec) (u:oI),rs[j]?=some r->r.u=some u->S (i+j)=true->u.f a=u.f a')->cellAt S k i rs f a=cellAt S k i rs f a'
 |_,[],_,h,_=>h
 |i,r::rs,f,h,hd=>by
  simp only[cellAt];refine NH (i+1) rs _ ?_ λj r' u h1 h2 h3=>hd (j+1) r' u (by simpa using h1) h2 (by rw[show i+(j+1)=i+1+j from by omega];exact h3);cases hu:r.u with
  |none=>exact h
  |some u=>
   simp only[]
   cases hb:S i&&Nat.beq u.k k with
   |false=>exact h
   |true=>exact hd 0 r u rfl hu (by simp only[Bool.and_eq_true] at hb;exact hb.1)
def NI {S:Nat->Bool} {i:Nat} {r:Rec} {rs:List Rec} {H:List (Act->Own)} (hS:S i=true):iB S (i+1) rs 0 (mj H r.u)=iB S i (r::rs) 0 H:=by
 apply List.ext_getElem?;intro j;rw[oJ,oJ];cases hu:r.u with
 |none=>simp[mj,cellAt,hu]
 |some u=>
  simp only[mj,List.getElem?_set]
  by_cases hk:u.k=j
  .subst hk
   by_cases hl:u.k<H.length
   .simp[hl,cellAt,hu,hS]
   simp[hl]
  rw[if_neg hk]
  have hb:Nat.beq u.k j=false:=by
   cases hb:Nat.beq u.k j with
   |false=>rfl
   |true=>exact absurd (Nat.eq_of_beq_eq_true hb) hk
  cases H[j]? with
  |none=>rfl
  |some f=>simp[cellAt,hu,hb]
def NJ {S:Nat->Bool} {i:Nat} {rs:List Rec} {H:List (Act->Own)} (h:∀j,i<=j->S j=false):iB S i rs 0 H=H:=by
 apply List.ext_getElem?;intro j;rw[oJ];cases H[j]? with
 |none=>rfl
 |some f=>simp[Hp i rs f h]
def DA (P:Program) (n:Nat) (ops:Array Oper) (H H':List (Act->Own)) (T:List Nat) (Γ:Env) (o:Oper) (x:AV):Prop:=
 ∀(F:Nat->Own) (W0:World×(Nat->Prop)) (I0 I:Im) (a:Act) (w:World) (Q:Exit->Act->World->Prop),St ⟨W0.1,I0,n,W0.2⟩ I (eU T a F 0 H) Γ a w->
  (∀I' a' w',St ⟨W0.1,I0,n,W0.2⟩ I' (eU T a' F 0 H') (np o.dst x Γ) a' w'->wpList P ops Q [] a' w')->wpList P ops Q [o] a w
def wP (P:Program) (n:Nat) (ops:Array Oper):Env->List (Act->Own)->List Oper->List Rec->Prop
 |_,_,[],[]=>True
 |Γ,H,o::os,r::rs=>DA P n ops H (mj H r.u) r.T (Γ.only (o.looksAt ops)) o r.x/\(∀u,r.u=some u->u.fit)/\wP P n ops (np o.dst r.x Γ) (mj H r.u) os rs
 |_,_,_,_=>False
def fH:Nat->List Oper->List Rec->List oB
 |k,o::os,r::rs=>match o.dst with|some d=>(k,d,r.x)::fH (k+1) os rs|none=>fH (k+1) os rs
 |_,_,_=>[]
def Hq:∀(k:Nat) (os:List Oper) (rs:List Rec),(fH k os rs).Pairwise (λe f=>e.1<f.1)/\∀e∈fH k os rs,k<=e.1
 |k,[],_=>by simp[fH]
 |k,o::os,[]=>by simp[fH]
 |k,o::os,r::rs=>by
  have ih:=Hq (k+1) os rs;simp only[fH];split
  .refine⟨List.pairwise_cons.2 ⟨λe he=>by have:=ih.2 e he;simp;omega,ih.1⟩,λe he=>?_⟩;rcases List.mem_cons.1 he with rfl|he
   .simp
   have:=ih.2 e he;omega
  exact⟨ih.1,λe he=>by have:=ih.2 e he;omega⟩
def NK {e:oB}:∀{k:Nat} {os:List Oper} {rs:List Rec},e∈fH k os rs->∃i o r,os[i]?=some o/\rs[i]?=some r/\e.1=k+i/\o.dst=some e.2.1/\e.2.2=r.x
 |k,[],_,h=>by simp[fH] at h
 |k,o::os,[],h=>by simp[fH] at h
 |k,o::os,r::rs,h=>by
  simp only[fH] at h;have key:e∈fH (k+1) os rs->∃i o' r',(o::os)[i]?=some o'/\(r::rs)[i]?=some r'/\e.1=k+i/\o'.dst=some e.2.1/\e.2.2=r'.x:=λh=>by
   obtain⟨i,o',r',h1,h2,h3,h4⟩:=NK h;exact⟨i+1,o',r',by simpa using h1,by simpa using h2,by omega,h4⟩
  split at h
  .rename_i d hd;rcases List.mem_cons.1 h with rfl|h
   .exact⟨0,o,r,rfl,rfl,rfl,hd,rfl⟩
   exact key h
  exact key h
def WT {i d:Nat} {o:Oper} {r:Rec} (hd:o.dst=some d):∀{k:Nat} {os:List Oper} {rs:List Rec},os[i]?=some o->rs[i]?=some r->(k+i,d,r.x)∈fH k os rs:=by
 induction i with
 |zero=>intro k os rs h1 h2;cases os<;>cases rs<;>simp at h1 h2;subst h1 h2;simp[fH,hd]
 |succ i ih=>
  intro k os rs h1 h2
  cases os with
  |nil=>simp at h1
  |cons o' os=>cases rs with
   |nil=>simp at h2
   |cons r' rs=>
    simp at h1 h2
    have:=ih (k:=k+1) h1 h2
    rw[show k+(i+1)=k+1+i from by omega]
    simp only[fH]
    split
    .exact List.mem_cons_of_mem _ this
    exact this
def wQ (Γ:Env):List Oper->List Rec->Env
 |o::os,r::rs=>wQ (np o.dst r.x Γ) os rs
 |_,_=>Γ
def NL:∀(os:List Oper) (rs:List Rec) (k:Nat) (Γ:Env),wQ Γ os rs=fE (fH k os rs).reverse++Γ
 |[],_,_,_=>by simp[wQ,fH,fE]
 |_::_,[],_,_=>by simp[wQ,fH,fE]
 |o::os,r::rs,k,Γ=>by
  rw[wQ,NL os rs (k+1)];simp only[fH];cases o.dst with
  |none=>rfl
  |some d=>simp[fE,np]
def A5 (H:List (Act->Own)):List Rec->List (Act->Own)
 |r::rs=>A5 (mj H r.u) rs
 |[]=>H
def NM:∀(rs:List Rec) (i:Nat) (H:List (Act->Own)),A5 H rs=iB (λ_=>true) i rs 0 H
 |[],i,H=>by
  apply List.ext_getElem?;intro j;rw[oJ];show H[j]?=_;cases H[j]?<;>rfl
 |r::rs,i,H=>by rw[A5,NM rs (i+1),NI rfl]
def wP.at {P:Program} {n:Nat} {ops:Array Oper} {Γ0:Env}:∀(os:List Oper) (rs:List Rec) (k:Nat) (H:List (Act->Own)) (done:List oB),wP P n ops (fE done++Γ0) H os rs->(∀e∈done,e.1<k)->
 os.length=rs.length/\(∀(i:Nat) (r:Rec) (u:oI),rs[i]?=some r->r.u=some u->u.fit)/\∀(i:Nat) (o:Oper) (r:Rec),os[i]?=some o->rs[i]?=some r->
  DA P n ops (iB (λj=>decide (j<k+i)) k rs 0 H) (mj (iB (λj=>decide (j<k+i)) k rs 0 H) r.u) r.T ((fE (((fH k os rs).reverse++done).filter λe=>decide (e.1<k+i))++Γ0).only (o.looksAt ops)) o r.x
 |[],[],_,_,_,_,_=>⟨rfl,λi r u h=>by simp at h,λi o r h=>by simp at h⟩
 |o::os,r::rs,k,H,done,h,hd=>by
  obtain⟨h1,hf,h2⟩:=h;have e0:np o.dst r.x (fE done++Γ0)=fE (match o.dst with|some d=>(k,d,r.x)::done|none=>done)++Γ0:=by
   cases o.dst with
   |none=>rfl
   |some d=>simp[np,fE]
  rw[e0] at h2;have ih:=wP.at os rs (k+1) (mj H r.u) _ h2 (λe he=>by
   split at he
   .rcases List.mem_cons.1 he with rfl|he
    .simp
    have:=hd e he;omega
   have:=hd e he;omega)
  have AL:(fH k (o::os) (r::rs)).reverse++done=(fH (k+1) os rs).reverse++(match o.dst with|some d=>(k,d,r.x)::done|none=>done):=by
   simp only[fH];cases o.dst with
   |none=>rfl
   |some d=>simp
  refine⟨by simp[ih.1],λi r' u g1 g2=>?_,λi o' r' ho hr=>?_⟩
  .cases i with
   |zero=>simp at g1;subst g1;exact hf u g2
   |succ i=>exact ih.2.1 i r' u (by simpa using g1) g2
  rw[AL];cases i with
  |zero=>
   simp at ho hr;subst ho hr
   have kU:((fH (k+1) os rs).reverse++(match o.dst with|some d=>(k,d,r.x)::done|none=>done)).filter (λe=>decide (e.1<k+0))=done:=by
    rw[List.filter_append];have e1:(fH (k+1) os rs).reverse.filter (λe=>decide (e.1<k+0))=[]:=by
     rw[List.filter_eq_nil_iff];intro e he;have:=(Hq (k+1) os rs).2 e (List.mem_reverse.1 he);simp;omega
    have e2:done.filter (λe=>decide (e.1<k+0))=done:=by
     rw[List.filter_eq_self];intro e he;simpa using hd e he
    rw[e1];split
    .rw[List.filter_cons];simp only[Nat.add_zero,Nat.lt_irrefl,decide_false,Bool.false_eq_true,if_false,List.nil_append];simpa using e2
    simpa using e2
   rw[kU,NJ λj hj=>by simp;omega]
   exact h1
  |succ i=>
   have:=ih.2.2 i o' r' (by simpa using ho) (by simpa using hr)
   rw[NI gQ] at this
   rw[show k+(i+1)=k+1+i from by omega]
   exact this
 |[],_::_,_,_,_,h,_=>h.elim
 |_::_,[],_,_,_,h,_=>h.elim
abbrev Meta:=List (List Nat×Option (Nat×List Nat))
def rp:Nat->Meta->Meta
 |0,l=>l
 |n+1,l=>([],none)::rp n l
def Rec.mN (r:Rec):List Nat×Option (Nat×List Nat):=(r.T,r.u.map λu=>(u.k,u.aQ))
def qZ (l:List Oper) (ms:Meta):Bool:=
 let C:=jW [] l
 let before:=λ(i j:Nat)=>if j<i then(C.getD i []).contains j else(C.getD j []).contains i
 (l.zipIdx.all λ(o,i)=>(o.after.toList.all λe=>!Region.binds .any e||Nat.blt e.on i)&&
   (slotsOf l.toArray o).all λt=>l.zipIdx.all λ(o',j)=>Nat.beq i j||!(o'.dst==some t)||before i j)&&
 (ms.zipIdx.all λ(m,i)=>(m.1.all λk=>ms.zipIdx.all λ(m',j)=>Nat.beq i j||(match m'.2 with|some u=>!Nat.beq u.1 k|none=>true)||before i j)&&
   (match m.2 with|some u=>m.1.contains u.1|none=>true))&&
 (l.zipIdx.all λ(o,i)=>match o.dst with|none=>true|some d=>ms.zipIdx.all λ(m,j)=>Nat.beq i j||(match m.2 with|some u=>!u.2.contains d|none=>true)||(C.getD j []).contains i)
def Hr {i j:Nat} (h:i≠j):Nat.beq i j=false:=by
 cases hb:Nat.beq i j with
 |false=>rfl
 |true=>exact absurd (Nat.eq_of_beq_eq_true hb) h
def WU {l:List Oper} {ms:Meta} (h:qZ l ms=true) {i:Nat} {o:Oper} (ho:l[i]?=some o):∀e∈o.after.toList,Region.binds .any e=true->e.on<i:=λe he hb=>by
 simp only[qZ,List.all_eq_true,Bool.and_eq_true] at h;have hm:(o,i)∈l.zipIdx:=by rw[List.mem_zipIdx_iff_getElem?];exact ho
 have:=(h.1.1 _ hm).1 e he;rw[hb] at this;simpa using this
def WV {l:List Oper} {ms:Meta} (h:qZ l ms=true) {i:Nat} {o:Oper} (ho:l[i]?=some o):
 ∀t∈slotsOf l.toArray o,∀j o',l[j]?=some o'->i≠j->o'.dst=some t->if j<i then j∈(jW [] l).getD i [] else i∈(jW [] l).getD j []:=λt ht j o' mi aX hd=>by
 simp only[qZ,List.all_eq_true,Bool.and_eq_true] at h;have hm:(o,i)∈l.zipIdx:=by rw[List.mem_zipIdx_iff_getElem?];exact ho
 have nN:(o',j)∈l.zipIdx:=by rw[List.mem_zipIdx_iff_getElem?];exact mi
 have:=(h.1.1 _ hm).2 t ht _ nN;simp only[Hr aX,hd,Bool.false_or] at this;have h4:(!(some t==some t))=false:=by simp
 rw[h4,Bool.false_or] at this;split
 .rename_i bw;rw[if_pos bw] at this;simpa using this
 rename_i bw;rw[if_neg bw] at this;simpa using this
def WW {l:List Oper} {rs:List Rec} (h:qZ l (rs.map Rec.mN)=true) {i:Nat} {r:Rec} (hr:rs[i]?=some r):
 (∀k∈r.T,∀j r' u,rs[j]?=some r'->i≠j->r'.u=some u->u.k=k->if j<i then j∈(jW [] l).getD i [] else i∈(jW [] l).getD j [])/\∀u,r.u=some u->u.k∈r.T:=by
 simp only[qZ,List.all_eq_true,Bool.and_eq_true] at h;have hm:(r.mN,i)∈(rs.map Rec.mN).zipIdx:=by rw[List.mem_zipIdx_iff_getElem?];simp[hr]
 obtain⟨h1,h2⟩:=h.1.2 _ hm;refine⟨λk hk j r' u WX aX hu WY=>?_,λu hu=>?_⟩
 .have nN:(r'.mN,j)∈(rs.map Rec.mN).zipIdx:=by rw[List.mem_zipIdx_iff_getElem?];simp[WX]
  have:=h1 k hk _ nN;have hb:Nat.beq u.k k=true:=by rw[WY];exact Nat.beq_refl k
  simp only[Hr aX,Rec.mN,hu,Option.map_some,hb,Bool.not_true,Bool.false_or] at this;split
  .rename_i bw;rw[if_pos bw] at this;simpa using this
  rename_i bw;rw[if_neg bw] at this;simpa using this
 simp only[Rec.mN,hu,Option.map_some] at h2;simpa using h2
def WZ {l:List Oper} {rs:List Rec} (h:qZ l (rs.map Rec.mN)=true) {i d:Nat} {o:Oper} (ho:l[i]?=some o) (hd:o.dst=some d) {j:Nat} {r:Rec} {u:oI} (hr:rs[j]?=some r) (hu:r.u=some u) (aX:i≠j) (q6:d∈u.aQ):
 i∈(jW [] l).getD j []:=by
 simp only[qZ,List.all_eq_true,Bool.and_eq_true] at h;have hm:(o,i)∈l.zipIdx:=by rw[List.mem_zipIdx_iff_getElem?];exact ho
 have:=h.2 _ hm;simp only[hd,List.all_eq_true] at this;have nN:(r.mN,j)∈(rs.map Rec.mN).zipIdx:=by rw[List.mem_zipIdx_iff_getElem?];simp[hr]
 have:=this _ nN;simp only[Hr aX,Rec.mN,hu,Option.map_some,Bool.false_or,Bool.or_eq_true,Bool.not_eq_true'] at this;rcases this with h|h
 .have:u.aQ.contains d=true:=by simpa using q6
  rw[this] at h;cases h
 simpa using h
section
variable {P:Program} {c:Ctx} {I:Im} {H:List Own} {Γ:Env} {a:Act} {w:World} {Q:Exit->Act->World->Prop}
def W1 {o:Oper} {K:Act->World->Prop} {Q':Exit->Act->World->Prop} (hq:∀e a w,e≠.normal->Q' e a w->Q e a w) (h:o.wp P a w K Q'):o.wp P a w (λa' w'=>(∃v,a'.tmps=(a.put o.dst v).tmps)/\K a' w') Q:=by
 unfold Oper.wp at h⊢;generalize (execOp a.eval o).run P w=r at h⊢;cases r with
 |ok n w'=>
  cases n with
  |enter f args=>
   refine Calls.mono h λe wy he=>?_
   cases e with
   |returned v=>exact⟨⟨v,rfl⟩,he⟩
   |panicked ch=>exact hq _ _ _ bk he
   |outgrown=>exact let⟨a,w,h⟩:=he;⟨a,w,hq _ _ _ bk h⟩
  |row row args=>exact Rows.mono h λv wy he=>⟨⟨v,rfl⟩,he⟩
  |value v=>exact⟨⟨v,rfl⟩,h⟩
  |skip=>exact⟨⟨undef,rfl⟩,h⟩
  |defer d=>exact⟨⟨undef,by cases o.dst<;>rfl⟩,h⟩
  |_=>exact h
 |halt x w'=>cases x<;>simp only[Oper.upon] at h⊢<;>first|exact h|exact hq _ _ _ bk h
def NN {T:List Nat} {F:Nat->Own} {Hf:List (Act->Own)} {X:List Own} (hl:X.length=Hf.length) (h:∀j f x,Hf[j]?=some f->X[j]?=some x->x=bif T.contains j then f a else F j):eU T a F 0 Hf=X:=by
 apply List.ext_getElem?;intro j;rw[wO];cases hf:Hf[j]? with
 |none=>
  have:Hf.length<=j:=by simpa using hf
  rw[List.getElem?_eq_none om];rfl
 |some f=>
  have hj:j<Hf.length:=(List.getElem?_eq_some_iff.1 hf).1
  have hx:X[j]?=some X[j]:=by simp[hl,hj]
  rw[hx]
  simp only[Option.map_some,Nat.zero_add]
  rw[<-h j f _ hf hx]
def St.W2 (U:St c I H Γ a w):St ⟨c.W,I,c.n,c.F⟩ I H Γ a w:=
 ⟨⟨Im.le_refl I,λ_ _ _=>rfl,U.step.dz,U.step.below⟩,U.own,U.env,U.size,U.defers⟩
def A6 (pre tail:List Oper) (ms:Meta):Bool:=
 qZ (pre++tail) (ms++tail.map λ_=>([],none))&&(List.range tail.length).all λi=>(List.range (pre.length+i)).all λj=>((jW [] (pre++tail)).getD (pre.length+i) []).contains j
def DB {α:Type} {x y:List α} {i:Nat} {v:α} (h:x[i]?=some v):(x++y)[i]?=some v:=by
 rw[List.getElem?_append_left (List.getElem?_eq_some_iff.1 h).1];exact h
def W3 {pre tail:List Oper} {rs:List Rec} {H0:List Own} (Hs:A6 pre tail (rs.map Rec.mN)=true) (hlen:pre.length=rs.length) (ss:(pre.all λo=>match o.dst with|some d=>Nat.blt d c.n|none=>true)=true)
 (iO:∀(i:Nat) (r:Rec) (u:oI),rs[i]?=some r->r.u=some u->u.fit)
 (run:∀(i:Nat) (o:Oper) (r:Rec),pre[i]?=some o->rs[i]?=some r->DA P c.n (pre++tail).toArray (iB (λj=>decide (j<i)) 0 rs 0 (H0.map λo _=>o)) (mj (iB (λj=>decide (j<i)) 0 rs 0 (H0.map λo _=>o)) r.u) r.T ((fE ((fH 0 pre rs).reverse.filter λe=>decide (e.1<i))++Γ).only (o.looksAt (pre++tail).toArray)) o r.x)
 (k:∀I' a' w',St c I' (nq a' (iB (λ_=>true) 0 rs 0 (H0.map λo _=>o))) (fE (fH 0 pre rs).reverse++Γ) a' w'->wpList P (pre++tail).toArray Q tail a' w'):
 ∀(fuel:Nat) (listed:Array Bool) (I:Im) (a:Act) (w:World),listed.size=(pre++tail).length->((List.range (pre++tail).length).filter λi=>!listed.getD i false).length<=fuel->
  (∀i,i<(pre++tail).length->listed.getD i false=true->i<pre.length)->
  (∀(i:Nat) (o:Oper),(pre++tail)[i]?=some o->listed.getD i false=true->∀e∈o.after.toList,Region.binds .any e=true->listed.getD e.on false=true)->
  St c I (nq a (iB (λi=>listed.getD i false) 0 rs 0 (H0.map λo _=>o))) (fE ((fH 0 pre rs).reverse.filter λe=>listed.getD e.1 false)++Γ) a w->wpAny P .any (pre++tail).toArray Q fuel listed a w:=by
 simp only[A6,Bool.and_eq_true,List.all_eq_true] at Hs;have gE:qZ (pre++tail) ((rs++tail.map λ_=>(⟨AV.any,[],none⟩:Rec)).map Rec.mN)=true:=by
  rw[List.map_append,List.map_map];exact Hs.1
 have hT:∀{i j:Nat},pre.length<=i->i<(pre++tail).length->j<i->j∈(jW [] (pre++tail)).getD i []:=λ{i j} hi ji hj=>by
  have:=Hs.2 (i-pre.length) (by simp at ji⊢;omega) j gQ;rw[show pre.length+(i-pre.length)=i from by omega] at this;simpa using this
 have hE:∀{i:Nat} {o:Oper},(pre++tail)[i]?=some o->∀e∈o.after.toList,Region.binds .any e=true->e.on<i:=λho=>WU gE ho;have hL:(fH 0 pre rs).reverse.Pairwise (λe f=>f.1<e.1):=by
  rw[List.pairwise_reverse];exact(Hq 0 pre rs).1
 have sq:∀e∈(fH 0 pre rs).reverse,∃o',pre[e.1]?=some o'/\o'.dst=some e.2.1:=λe he=>by
  obtain⟨j,o',r',g1,_,g3,g4,_⟩:=NK (List.mem_reverse.1 he);exact⟨o',by rw[g3,Nat.zero_add];exact g1,g4⟩
 have NO:∀(listed:Array Bool) (I:Im) (a:Act) (w:World),(∀i,i<pre.length->listed.getD i false=true)->
  St c I (nq a (iB (λi=>listed.getD i false) 0 rs 0 (H0.map λo _=>o))) (fE ((fH 0 pre rs).reverse.filter λe=>listed.getD e.1 false)++Γ) a w->wpList P (pre++tail).toArray Q tail a w:=λlisted I a w aT U=>by
  refine k I a w ?_;have e1:(fH 0 pre rs).reverse.filter (λe=>listed.getD e.1 false)=(fH 0 pre rs).reverse:=by
   rw[List.filter_eq_self];intro e he;obtain⟨o',h1,_⟩:=sq e he;exact aT e.1 (List.getElem?_eq_some_iff.1 h1).1
  have e2:iB (λi=>listed.getD i false) 0 rs 0 (H0.map λo _=>o)=iB (λ_=>true) 0 rs 0 (H0.map λo _=>o):=by
   apply List.ext_getElem?;intro j;rw[oJ,oJ];cases(H0.map λ(o:Own) (_:Act)=>o)[j]? with
   |none=>rfl
   |some f=>
    simp only[Option.map_some]
    rw[A4 (S:=λi=>listed.getD i false) (S':=λ_=>true) 0 rs f λj r u h1 _ _=>by
     rw[Nat.zero_add];exact aT j (by rw[hlen];exact(List.getElem?_eq_some_iff.1 h1).1)]
  rw[e1,e2] at U;exact U
 intro fuel;induction fuel with
 |zero=>
  intro listed I a w cT hf oF bq U
  have h0:∀i,i<(pre++tail).length->listed.getD i false=true:=λi hi=>by
   have:(List.range (pre++tail).length).filter (λi=>!listed.getD i false)=[]:=List.eq_nil_of_length_eq_zero om;rw[List.filter_eq_nil_iff] at this;simpa using this i (by simpa using hi)
  have jO:tail=[]:=by
   rcases tail with _|⟨t,ts⟩
   .rfl
   have:=oF pre.length bk (h0 pre.length bk);omega
  have hw:=NO listed I a w (λi hi=>h0 i gQ) U
  exact Du hE hT 0 (pre++tail).length listed 0 a w om bk om om cT (λi hi=>⟨λ_=>hi,λ_=>h0 i hi⟩) (by subst jO;simpa using hw)
 |succ fuel ih=>
  intro listed I a w cT hf oF bq U
  by_cases aT:∀i,i<pre.length->listed.getD i false=true
  .refine Du hE hT _ pre.length listed (fuel+1) a w rfl om bk (Nx hf oF aT) cT (λi hi=>⟨oF i hi,aT i⟩) ?_
   rw[List.drop_left]
   exact NO listed I a w aT U
  have A1:∃i0,i0<pre.length/\listed.getD i0 false=false:=by
   refine Classical.byContradiction λhn=>aT λi hi=>?_;cases hb:listed.getD i false with
   |true=>rfl
   |false=>exact absurd ⟨i,hi,hb⟩ hn
  obtain⟨i0,A2,tD⟩:=A1
  refine⟨λhr=>?_,λi hi=>?_⟩
  .exfalso
   have:∀i,i<(pre++tail).length->listed.getD i false=true:=λi=>by
    induction i using Nat.strongRecOn with
    |_ i AI=>
     intro hi
     cases hl:listed.getD i false with
     |true=>rfl
     |false=>
      have dq:i∈Region.ready .any (pre++tail).toArray listed:=by
       refine mem_ready.2 ⟨by rw[yA om];exact hl,(pre++tail)[i],by simp[hi],λe he hb=>?_⟩;have bw:=hE (i:=i) (o:=(pre++tail)[i]) (by simp[hi]) e (by simpa using he) hb;exact AI e.on bw om
      rw[hr] at dq;cases dq
   rw[this i0 gQ] at tD;cases tD
  obtain⟨h1,o,h2,h3⟩:=mem_ready.1 hi
  have bw:i<(pre++tail).length:=by have:=(Array.getElem?_eq_some_iff.1 h2).1;simpa using this
  have yC:(pre++tail)[i]?=some o:=by simpa using h2
  rw[yA om] at h1
  have aM:=Hi cT bq yC (λe he hb=>h3 e (by simpa using he) hb)
  have ld:i<pre.length:=by
   refine Classical.byContradiction λhn=>?_;have:=aM i0 om (hT om bw om);rw[this] at tD;cases tD
  have j1:∀j,(listed.setIfInBounds i true).getD j false=if j=i then true else listed.getD j false:=λj=>Dh om false
  have Hj:=Df (S:=λj=>listed.getD j false) (pre++tail) [] (λi k hk=>by simp at hk) (λi o ho hi e he hb=>bq i o ho (by simpa using hi) e he hb)
  have Hk:∀(i':Nat) (o':Oper),(pre++tail)[i']?=some o'->(listed.setIfInBounds i true).getD i' false=true->∀e∈o'.after.toList,Region.binds .any e=true->(listed.setIfInBounds i true).getD e.on false=true:=λi' o' mi ji e he hb=>by
   rw[j1] at ji⊢;split
   .rfl
   split at ji
   .rename_i A0;subst A0;rw[yC] at mi;cases mi;exact h3 e (by simpa using he) hb
   exact bq i' o' mi ji e he hb
  have wL:∀j,i∈(jW [] (pre++tail)).getD j []->listed.getD j false=false:=λj hj=>by
   cases hb:listed.getD j false with
   |false=>rfl
   |true=>rw[Hj j i hj hb] at h1;cases h1
  have Hn:∀j,j<(pre++tail).length->(listed.setIfInBounds i true).getD j false=true->j<pre.length:=λj hj hb=>by
   rw[j1] at hb;split at hb
   .rename_i e;subst e;exact ld
   exact oF j hj hb
  have kW:pre[i]?=some o:=by rw[List.getElem?_append_left ld] at yC;exact yC
  have kr:i<rs.length:=by omega
  have yD:rs[i]?=some rs[i]:=by simp[kr]
  generalize rs[i]=r at yD
  obtain⟨W4,W5⟩:=WW gE (DB yD)
  have yn:∀k∈r.T,∀j r' u,rs[j]?=some r'->i≠j->r'.u=some u->u.k=k->if j<i then j∈(jW [] (pre++tail)).getD i [] else i∈(jW [] (pre++tail)).getD j []:=λk hk j r' u g=>W4 k hk j r' u (DB g)
  have j0:=run i o r kW yD
  have Ht:∀k∈r.T,∀f,cellAt (λj=>decide (j<i)) k 0 rs f=cellAt (λj=>listed.getD j false) k 0 rs f:=λk hk f=>A4 0 rs f λj r' u g1 g2 g3=>by
   rw[Nat.zero_add];by_cases j9:i=j
   .subst j9;rw[h1];simp
   have:=yn k hk j r' u g1 j9 g2 g3;split at this
   .rename_i oG;rw[aM j (λe=>j9 e.symm) this];simpa using oG
   rename_i oG;rw[wL j this];simpa using oG
  have W6:=WV gE yC
  have Dv:∀t∈slotsOf (pre++tail).toArray o,∀j o',pre[j]?=some o'->i≠j->o'.dst=some t->if j<i then j∈(jW [] (pre++tail)).getD i [] else i∈(jW [] (pre++tail)).getD j []:=λt ht j o' g=>W6 t ht j o' (DB g)
  have Hl:dp I a ((fE ((fH 0 pre rs).reverse.filter λe=>decide (e.1<i))++Γ).only (o.looksAt (pre++tail).toArray)):=λt y e=>by
   obtain⟨g1,g2⟩:=Env.GU e;have ht:t∈slotsOf (pre++tail).toArray o:=by
    unfold slotsOf;rw[List.mem_append];exact .inr (by simpa using g2)
   rw[AK (q:=λe=>listed.getD e.1 false) _ (λe he qY=>?_)] at g1
   .exact U.env t y g1
   obtain⟨o',k1,k2⟩:=sq e he;by_cases wM:e.1=i
   .rw[wM,h1];simp
   have:=Dv t ht e.1 o' k1 (λh=>wM h.symm) (by rw[k2,qY]);split at this
   .rename_i oG;rw[aM e.1 wM this];simpa using oG
   rename_i oG;rw[wL e.1 this];simpa using oG
  have Hm:((List.range (pre++tail).length).filter λj=>!(listed.setIfInBounds i true).getD j false).length<=fuel:=by
   have:=filter_lt (l:=List.range (pre++tail).length) (p:=λj=>!listed.getD j false) (q:=λj=>!(listed.setIfInBounds i true).getD j false) (i:=i) (by simpa using bw) (by simp only[h1];rfl) (by simp only[j1];simp) (λj hj=>by
    simp only[j1] at hj;split at hj
    .cases hj
    exact hj)
   omega
  let HS:List (Act->Own):=iB (λi=>listed.getD i false) 0 rs 0 (H0.map λo _=>o)
  let F:Nat->Own:=λk=>match HS[k]? with|some f=>f a|none=>Own.gone
  have W7:eU r.T a F 0 (iB (λj=>decide (j<i)) 0 rs 0 (H0.map λo _=>o))=nq a HS:=NN (by simp[nq,HS,Dz]) λj f x g1 g2=>by
   rw[oJ] at g1;have A7:(nq a HS)[j]?=some x:=g2;simp only[nq,List.getElem?_map] at A7;have g3:HS[j]?=((H0.map λ(o:Own) (_:Act)=>o)[j]?).map (cellAt (λi=>listed.getD i false) (0+j) 0 rs):=oJ 0 _ j;cases h0:(H0.map λ(o:Own) (_:Act)=>o)[j]? with
   |none=>rw[h0] at g1;simp at g1
   |some f0=>
    rw[h0] at g1 g3
    simp only[Option.map_some,Option.some.injEq,Nat.zero_add] at g1 g3
    rw[g3] at A7
    simp only[Option.map_some,Option.some.injEq] at A7
    cases hT:r.T.contains j with
    |true=>
     simp only[cond_true]
     rw[<-g1,<-A7,Ht j (by simpa using hT)]
    |false=>
     simp only[cond_false,F,g3,<-A7]
  have W8:St ⟨c.W,I,c.n,c.F⟩ I (eU r.T a F 0 (iB (λj=>decide (j<i)) 0 rs 0 (H0.map λo _=>o))) ((fE ((fH 0 pre rs).reverse.filter λe=>decide (e.1<i))++Γ).only (o.looksAt (pre++tail).toArray)) a w:=by
   rw[W7];exact⟨U.W2.step,U.own,Hl,U.size,U.defers⟩
  have pr:∀I' a' w',(∃v,a'.tmps=(a.put o.dst v).tmps)->St ⟨c.W,I,c.n,c.F⟩ I' (eU r.T a' F 0 (mj (iB (λj=>decide (j<i)) 0 rs 0 (H0.map λo _=>o)) r.u)) (np o.dst r.x ((fE ((fH 0 pre rs).reverse.filter λe=>decide (e.1<i))++Γ).only (o.looksAt (pre++tail).toArray))) a' w'->
   wpAny P .any (pre++tail).toArray Q fuel (listed.setIfInBounds i true) a' w':=λI' a' w' ⟨v,hv⟩ h'=>by
   refine ih (listed.setIfInBounds i true) I' a' w' (by simpa using cT) Hm Hn Hk ?_;have A8:∀t,o.dst≠some t->a'.tmps.getD t undef=a.tmps.getD t undef:=λt ht=>by
    rw[hv];cases hd:o.dst with
    |none=>rfl
    |some d=>
     have aX:d≠t:=λe=>ht (by rw[hd,e])
     simp[Act.put,aX]
   have eG:eU r.T a' F 0 (mj (iB (λj=>decide (j<i)) 0 rs 0 (H0.map λo _=>o)) r.u)=nq a' (iB (λj=>(listed.setIfInBounds i true).getD j false) 0 rs 0 (H0.map λo _=>o)):=NN (by cases r.u<;>simp[nq,Dz,mj]) λj f x g1 g2=>by
    simp only[nq,List.getElem?_map] at g2;rw[oJ] at g2;cases h0:(H0.map λ(o:Own) (_:Act)=>o)[j]? with
    |none=>rw[h0] at g2;simp at g2
    |some f0=>
     rw[h0] at g2
     simp only[Option.map_some,Option.some.injEq,Nat.zero_add] at g2
     have W9:∀a a',f0 a=f0 a':=by
      rw[List.getElem?_map] at h0;cases hh:H0[j]? with
      |none=>rw[hh] at h0;simp at h0
      |some o0=>rw[hh] at h0;simp at h0;subst h0;intro _ _;rfl
     have sg:∀(DC:∀u,r.u=some u->u.k≠j),cellAt (λj=>(listed.setIfInBounds i true).getD j false) j 0 rs f0=cellAt (λj=>listed.getD j false) j 0 rs f0:=λDC=>A4 0 rs f0 λj' r' u g3 g4 g5=>by
      rw[Nat.zero_add,j1,if_neg];intro e;subst e;rw[yD] at g3;cases g3;exact DC u g4 g5
     cases hT:r.T.contains j with
     |true=>
      simp only[cond_true]
      rw[<-g2]
      have Hu:j∈r.T:=by simpa using hT
      cases hu:r.u with
      |none=>
       rw[hu] at g1
       simp only[mj] at g1
       rw[oJ,h0] at g1
       simp only[Option.map_some,Option.some.injEq,Nat.zero_add] at g1
       rw[sg (λu e=>by rw[hu] at e;cases e),<-Ht j Hu,g1]
      |some u=>
       rw[hu] at g1
       simp only[mj] at g1
       by_cases hk:u.k=j
       .subst hk
        have oG:u.k<(iB (λj=>decide (j<i)) 0 rs 0 (H0.map λo _=>o)).length:=by
         rw[Dz];exact(List.getElem?_eq_some_iff.1 h0).1
        rw[List.getElem?_set_self oG] at g1
        cases g1
        rw[NG 0 rs f0 i r u yD hu rfl (by rw[Nat.zero_add,j1];simp) λj' r' u' g3 g4 g5 g6=>?_]
        have:=yn u.k Hu j' r' u' g3 om g4 g5
        rw[if_neg om] at this
        rw[Nat.zero_add,j1,if_neg om]
        exact wL j' this
       rw[List.getElem?_set_ne hk,oJ,h0] at g1
       simp only[Option.map_some,Option.some.injEq,Nat.zero_add] at g1
       rw[sg (λu' e=>by rw[hu] at e;cases e;exact hk),<-Ht j Hu,g1]
     |false=>
      simp only[cond_false]
      rw[<-g2]
      have DC:∀u,r.u=some u->u.k≠j:=λu hu e=>by
       have:=W5 u hu;rw[e] at this;have:r.T.contains j=true:=by simpa using this
       rw[hT] at this;cases this
      rw[sg DC]
      have g3:HS[j]?=some (cellAt (λi=>listed.getD i false) j 0 rs f0):=by
       have:=oJ (S:=λi=>listed.getD i false) (i:=0) (rs:=rs) 0 (H0.map λ(o:Own) (_:Act)=>o) j;rw[h0,Nat.zero_add] at this;exact this
      simp only[F,g3]
      refine(NH 0 rs f0 (W9 a' a) λj' r' u' g4 g5 g6=>iO j' r' u' g4 g5 a' a λd hd=>A8 d λe=>?_)
      rw[Nat.zero_add] at g6
      by_cases j9:i=j'
      .subst j9;have A9:listed.getD i false=true:=g6;rw[h1] at A9;cases A9
      have A9:listed.getD j' false=true:=g6
      rw[wL j' (WZ gE yC e (DB g4) g5 j9 hd)] at A9;cases A9
   rw[eG] at h';have qU:fV c.F c.I c.W I' w':=⟨Im.le_trans U.step.le h'.step.le,λb hb hf=>(h'.step.cU b hb hf).trans (U.step.cU b hb hf),h'.step.dz,h'.step.below⟩;refine⟨qU,h'.own,?_,h'.size,h'.defers⟩;intro t y e;by_cases tE:o.dst=some t
   .have uR:(i,t,r.x)∈(fH 0 pre rs).reverse:=by
     rw[List.mem_reverse];have:=WT tE (k:=0) kW yD;rwa[Nat.zero_add] at this
    rw[GV (i:=i) (x:=r.x) _ hL uR (by simp only[j1];simp) (λe he hp qY=>?_)] at e
    .cases e;exact h'.env t r.x (by rw[tE];simp[np,Env.get])
    obtain⟨o',k1,k2⟩:=sq e he;by_cases hle:e.1<=i
    .exact hle
    have aX:i≠e.1:=by omega
    have:=Dv t (by unfold slotsOf;rw[List.mem_append];exact .inl (by simp[tE])) e.1 o' k1 aX (by rw[k2,qY]);rw[if_neg om] at this;have Xa:¬e.1=i:=λh=>aX h.symm;rw[j1,if_neg Xa,wL e.1 this] at hp;cases hp
   rw[AK (q:=λe=>listed.getD e.1 false) _ (λe he qY=>?_)] at e
   .have:=U.env t y e;rw[A8 t tE];exact y.up _ _ _ h'.step.le this
   obtain⟨o',k1,k2⟩:=sq e he;have aX:e.1≠i:=λh=>by
    rw[h,kW] at k1;cases k1;exact tE (by rw[k2,qY])
   simp only[j1,if_neg aX]
  let Q':Exit->Act->World->Prop:=λe a' w'=>match e with
   |.normal=>∃I',St ⟨c.W,I,c.n,c.F⟩ I' (eU r.T a' F 0 (mj (iB (λj=>decide (j<i)) 0 rs 0 (H0.map λo _=>o)) r.u)) (np o.dst r.x ((fE ((fH 0 pre rs).reverse.filter λe=>decide (e.1<i))++Γ).only (o.looksAt (pre++tail).toArray))) a' w'
   |e=>Q e a' w'
  have hQ:∀e a w,e≠.normal->Q' e a w->Q e a w:=λe a w hn h=>by
   cases e<;>first|exact absurd rfl hn|exact h
  have lI:=j0 F (c.W,c.F) I I a w Q' W8 λI' a' w' h'=>⟨I',h'⟩
  unfold wpOp
  simp only[h2]
  unfold wpList at lI
  by_cases hw:Region.wanted o (yielded (pre++tail).toArray a.tmps)=true
  .rw[if_pos hw] at lI⊢
   rcases lI with lI|⟨h5,h6⟩
   .exact .inl (Oper.wp_mono (λa' w' h=>h) (Oper.wp_mono (λa' w' ⟨hv,I',h'⟩=>pr I' a' w' hv h') (W1 hQ lI)))
   exact .inr ⟨h5,let⟨a,w,h⟩:=h6;⟨a,w,hQ _ a w bk h⟩⟩
  rw[if_neg hw] at lI⊢
  obtain⟨I',h'⟩:=lI
  exact pr I' _ w ⟨undef,rfl⟩ h'
def aY (P:Program) (c:Ctx) (ops:Array Oper) (Q:Exit->Act->World->Prop) (Γ:Env) (H:List (Act->Own)) (os:List Oper) (ms:Meta):Prop:=
 ∃rs,rs.map Rec.mN=ms/\wP P c.n ops Γ H os rs/\∀I' a' w',St c I' (nq a' (A5 H rs)) (wQ Γ os rs) a' w'->Q .normal a' w'
def aY.nil {ops:Array Oper} {Hf:List (Act->Own)} (k:∀I' a' w',St c I' (nq a' Hf) Γ a' w'->Q .normal a' w'):aY P c ops Q Γ Hf [] []:=⟨[],rfl,trivial,k⟩
def aY.cons {ops:Array Oper} {Hf:List (Act->Own)} {o:Oper} {os:List Oper} {x:AV} {T:List Nat} {u:Option oI} {ms:Meta} (hu:∀v,u=some v->v.fit) (h:DA P c.n ops Hf (mj Hf u) T (Γ.only (o.looksAt ops)) o x) (k:aY P c ops Q (np o.dst x Γ) (mj Hf u) os ms):
 aY P c ops Q Γ Hf (o::os) ((T,u.map λu=>(u.k,u.aQ))::ms):=
 let⟨rs,h1,h2,h3⟩:=k;⟨⟨x,T,u⟩::rs,by simp[Rec.mN,h1],⟨h,hu,h2⟩,h3⟩
def St.NP {id:Nat} {pre tail:List Oper} {rs:List Rec} (U:St c I H Γ a w) (hm:P.follows .mixedOrders=true) (gE:A6 pre tail (rs.map Rec.mN)=true) (hd:(pre.all λo=>match o.dst with|some d=>Nat.blt d c.n|none=>true)=true)
 (run:wP P c.n (pre++tail).toArray Γ (H.map λo _=>o) pre rs) (k:∀I' a' w',St c I' (nq a' (A5 (H.map λo _=>o) rs)) (wQ Γ pre rs) a' w'->wpList P (pre++tail).toArray Q tail a' w'):(Code.region id (pre++tail).toArray true).wp P Q a w:=by
 refine wp_region_any hm ?_;obtain⟨hlen,iO,j0⟩:=wP.at (Γ0:=Γ) pre rs 0 _ [] (by simpa[fE] using run) (λe he=>by simp at he);have hf:∀i:Nat,(Array.replicate (pre++tail).length false).getD i false=false:=λi=>by
  rw[Array.getD_eq_getD_getElem?,Array.getElem?_replicate];split<;>rfl
 have:=W3 (P:=P) (c:=c) (H0:=H) (Γ:=Γ) (Q:=Q) gE hlen hd iO (λi o r ho hr=>by simpa using j0 i o r ho hr) (λI' a' w' h=>by
  rw[<-NL,<-NM] at h;exact k I' a' w' h) (pre++tail).length (Array.replicate (pre++tail).length false) I a {w with drawn:=w.drawn+1} bk
  (by simpa using List.length_filter_le _ (List.range (pre++tail).length)) (λi hi h=>by rw[hf] at h;cases h) (λi o ho hi=>by rw[hf] at hi;cases hi) (by
    have he:(fH 0 pre rs).reverse.filter (λe=>(Array.replicate (pre++tail).length false).getD e.1 false)=[]:=by
     rw[List.filter_eq_nil_iff];intro e _;rw[hf];simp
    have hh:nq a (iB (λi=>(Array.replicate (pre++tail).length false).getD i false) 0 rs 0 (H.map λo _=>o))=H:=by
     rw[NJ λj _=>hf j];simp[nq,Function.comp_def]
    rw[he,hh];exact⟨⟨U.step.le,U.step.cU,U.step.dz,U.step.below.drew⟩,⟨λo ho=>⟨o.fe I I w _ (Im.le_refl I) (λ_ _=>rfl) (U.own.all o ho).1,(U.own.all o ho).2⟩,U.own.nodup⟩,U.env,U.size,U.defers⟩)
 simpa using this
def St.gw {id:Nat} {l:List Oper} (ms:Meta) (U:St c I H Γ a w) (hm:P.follows .mixedOrders=true) (gE:qZ l ms=true) (hd:(l.all λo=>match o.dst with|some d=>Nat.blt d c.n|none=>true)=true)
 (run:aY P c l.toArray Q Γ (H.map λo _=>o) l ms):(Code.region id l.toArray true).wp P Q a w:=by
 obtain⟨rs,h0,run,k⟩:=run;subst h0;have:=U.NP (id:=id) (Q:=Q) (pre:=l) (tail:=[]) (rs:=rs) hm (by simpa[A6] using gE) hd (by rw[List.append_nil];exact run) λI' a' w' h=>wpList_nil (k I' a' w' h);rwa[List.append_nil] at this
end
def NQ {a a':Act} {F:Nat->Own} {Hf:List (Act->Own)}:eU [] a F 0 Hf=eU [] a' F 0 Hf:=by
 apply List.ext_getElem?;intro j;rw[wO,wO];rfl
def oK {k:Nat} {a a':Act} {F:Nat->Own} {Hf:List (Act->Own)} {f:Act->Own} {O:Own} (h:O=f a'):(eU [k] a F 0 Hf).set k O=eU [k] a' F 0 (Hf.set k f):=by
 apply List.ext_getElem?;intro j;rw[wO,List.getElem?_set,List.getElem?_set,wO];have hl:(eU [k] a F 0 Hf).length=Hf.length:=by
  have:∀(n:Nat) (L:List (Act->Own)),(eU [k] a F n L).length=L.length:=by
   intro n L;induction L generalizing n with
   |nil=>rfl
   |cons x L ih=>simp[eU,ih]
  exact this 0 Hf
 rw[hl];by_cases hk:k=j
 .subst hk;by_cases bw:k<Hf.length
  .simp[bw,h]
  simp[bw]
 rw[if_neg hk,if_neg hk];have hc:([k].contains (0+j))=false:=by simp;omega
 rw[hc];rfl
section
variable {P:Program} {c:Ctx} {I:Im} {H:List Own} {Γ:Env} {a:Act} {w:World} {Q:Exit->Act->World->Prop} {ops:Array Oper} {Hf:List (Act->Own)} {os:List Oper} {ms:Meta}
def St.pass {H':List Own} (U:St c I H Γ a w) (h:H=H'):St c I H' Γ a w:=h▸U
def aY.op {o:Oper} {d:Nat} {x:AV} (hg:o.guard=none) (ho:o.dst=some d) (hd:Nat.blt d c.n=true) (h:∀F a,Ok P (eU [] a F 0 Hf) (Γ.only (o.looksAt ops)) true o x)
 (k:aY P c ops Q ((d,x)::Γ) Hf os ms):aY P c ops Q Γ Hf (o::os) (([],none)::ms):=
 aY.cons (u:=none) (x:=x) (λv e=>by cases e) (λF W0 I0 I a w Q U kk=>U.op hg ho hd (h F a) λI' a' w' cA=>kk I' a' w' (by rw[ho];exact cA.pass NQ)) (by rw[ho];exact k)
def aY.Dd {o:Oper} {d:Nat} {x:AV} {G:Bool} (hg:jA ops (Γ.only (o.looksAt ops)) o G) (ho:o.dst=some d) (hd:Nat.blt d c.n=true) (h:∀F a,Ok P (eU [] a F 0 Hf) (Γ.only (o.looksAt ops)) G o x)
 (k:aY P c ops Q ((d,.cond G x)::Γ) Hf os ms):aY P c ops Q Γ Hf (o::os) (([],none)::ms):=
 aY.cons (u:=none) (x:=.cond G x) (λv e=>by cases e) (λF W0 I0 I a w Q U kk=>U.Dd hg ho hd (h F a) λI' a' w' cA=>kk I' a' w' (by rw[ho];exact cA.pass NQ)) (by rw[ho];exact k)
def aY.Xb {o:Oper} {d:Nat} {x:AV} (T:List Nat) (hc:∀F a a',eU T a F 0 Hf=eU T a' F 0 Hf) (hg:o.guard=none) (ho:o.dst=some d) (hd:Nat.blt d c.n=true) (h:∀F a,Ok P (eU T a F 0 Hf) (Γ.only (o.looksAt ops)) true o x)
 (k:aY P c ops Q ((d,x)::Γ) Hf os ms):aY P c ops Q Γ Hf (o::os) ((T,none)::ms):=
 aY.cons (u:=none) (x:=x) (λv e=>by cases e) (λF W0 I0 I a w Q U kk=>U.op hg ho hd (h F a) λI' a' w' cA=>kk I' a' w' (by rw[ho];exact cA.pass (hc F a a'))) (by rw[ho];exact k)
def aY.jn {o:Oper} {x:AV} {O:Own} (k:Nat)
 (h:∀(F:Nat->Own) (W0:World×(Nat->Prop)) (I0 I:Im) (a:Act) (w:World) (Q:Exit->Act->World->Prop),St ⟨W0.1,I0,c.n,W0.2⟩ I (eU [k] a F 0 Hf) (Γ.only (o.looksAt ops)) a w->
   (∀I' a' w',St ⟨W0.1,I0,c.n,W0.2⟩ I' ((eU [k] a F 0 Hf).set k O) (np o.dst x (Γ.only (o.looksAt ops))) a' w'->wpList P ops Q [] a' w')->wpList P ops Q [o] a w)
 (r:aY P c ops Q (np o.dst x Γ) (Hf.set k λ_=>O) os ms):aY P c ops Q Γ Hf (o::os) (([k],some (k,[]))::ms):=
 aY.cons (u:=some ⟨k,[],λ_=>O⟩) (x:=x) (λv e=>by cases e;intro _ _ _;rfl) (λF W0 I0 I a w Q U kk=>h F W0 I0 I a w Q U λI' a' w' cA=>kk I' a' w' (cA.pass (oK rfl))) r
def St.Ba {x:Own} (k:Nat) (U:St c I (H++[x]) Γ a w) (hk:H[k]?=some Own.gone):St c I (H.set k x) Γ a w:=by
 refine⟨U.step,⟨λo ho=>?_,?_⟩,U.env,U.size,U.defers⟩
 .rcases List.mem_or_eq_of_mem_set ho with ho|rfl
  .exact U.own.all o (List.mem_append_left _ ho)
  exact U.own.all _ bk
 have hn:=U.own.nodup;rw[List.filterMap_append,List.nodup_append] at hn;refine tu hn.1 λb hb=>.inr λy hy e=>?_;exact hn.2.2 b (List.mem_filterMap.2 ⟨y,hy,e⟩) b (List.mem_filterMap.2 ⟨x,by simp,hb⟩) rfl
def St.jc (U:St c I H Γ a w):St c I (H++[Own.gone]) Γ a w:=
 ⟨U.step,⟨λy hy=>by
  rcases List.mem_append.1 hy with hy|hy
  .exact U.own.all y hy
  .obtain rfl:=by simpa using hy
   exact⟨trivial,λb e=>by cases e⟩,
  by rw[List.filterMap_append];simpa[Own.gone] using U.own.nodup⟩,U.env,U.size,U.defers⟩
def ml {k:Nat} {a:Act} {F:Nat->Own} {f:Act->Own} (h:Hf[k]?=some f):(eU [k] a F 0 Hf)[k]?=some (f a):=by
 rw[wO,h];simp
variable {T T' E ty:TypeId} {p:String} {af:Array Edge} {ag:Bool} {n m d:Nat} {zv:Value} {l lx:List AV} {z y:Operand}
def DD {a:Act} {b:Nat} (h:a.tmps.getD d undef=.pointer (some ⟨b,0,none⟩)):oH T l (a.tmps.getD d undef)=Own.box b T l:=by rw[h];rfl
def uY {k:Nat} {g:Value->Own} (h:∀v v',v=v'->g v=g v'):∀v,(some (⟨k,[d],λa=>g (a.tmps.getD d undef)⟩:oI))=some v->v.fit:=λv e=>by
 cases e;intro a a' hh;exact h _ _ (hh d bk)
def aY.alloc (k:Nat) (hk:Hf[k]?=some λ_=>Own.gone) (hd:Nat.blt d c.n=true) (hT:Ty P T ag n m zv) (hz:∀I,bO I l zv.cells.toList)
 (r:aY P c ops Q ((d,AV.wN)::Γ) (Hf.set k λa=>oH T l (a.tmps.getD d undef)) os ms):aY P c ops Q Γ Hf (⟨some d,.alloc T,ty,p,af,none⟩::os) (([k],some (k,[d]))::ms):=
 aY.cons (u:=some ⟨k,[d],λa=>oH T l (a.tmps.getD d undef)⟩) (x:=AV.wN) (uY λv v' e=>e▸rfl) (λF W0 I0 I a w Q U kk=>U.alloc hd hT hz λb I' a' w' cA=>by
  have hv:a'.tmps.getD d undef=.pointer (some ⟨b,0,none⟩):=cA.env d (.val (.pointer (some ⟨b,0,none⟩))) (by simp[Env.get]);refine kk I' a' w' ?_;have h1:=(cA.Ba k (ml hk)).pass (oK (f:=λa=>oH T l (a.tmps.getD d undef)) (DD hv).symm);exact⟨h1.step,h1.own,λt x e=>by
   simp only[np,Env.get] at e;cases hb:Nat.beq d t with
   |true=>
    rw[hb] at e;simp only[cond_true] at e;cases e
    obtain rfl:d=t:=Nat.eq_of_beq_eq_true hb
    exact⟨b,hv⟩
   |false=>rw[hb] at e;exact h1.env t x (by simp only[Env.get,hb];exact e),h1.size,h1.defers⟩) r
def aY.q7 (k:Nat) (hk:Hf[k]?=some λa=>oH T' l (a.tmps.getD d undef)) (hT:Ty P T true n m zv) (hy:Env.get d (Γ.only ((⟨none,.store T (.tmp d) z,ty,p,af,none⟩:Oper).looksAt ops))=some AV.wN)
 (hz:At (Γ.only ((⟨none,.store T (.tmp d) z,ty,p,af,none⟩:Oper).looksAt ops)) true z (.agg lx)) (hn:lx.length=n) (hl:l.length=n)
 (r:aY P c ops Q Γ (Hf.set k λa=>oH T' lx (a.tmps.getD d undef)) os ms):aY P c ops Q Γ Hf (⟨none,.store T (.tmp d) z,ty,p,af,none⟩::os) (([k],some (k,[d]))::ms):=
 aY.cons (u:=some ⟨k,[d],λa=>oH T' lx (a.tmps.getD d undef)⟩) (x:=AV.any) (uY λv v' e=>e▸rfl) (λF W0 I0 I a w Q U kk=>by
  obtain⟨b,hb⟩:=U.env d _ hy;obtain⟨cs,hv,yu⟩:=hz I a U.env rfl;have fC:=ml (a:=a) (F:=F) hk;rw[DD hb] at fC;obtain⟨w',hr,cA⟩:=U.Di (q:=0) (lx:=lx) (v:=a.eval z) k hT fC (by rw[hv];exact yu) hn (by rw[hl];simp);have e:fO l 0 lx=lx:=by simp[fO];omega
  rw[e] at cA;exact jM rfl (yt hb rfl hr (kk I _ w' (cA.pass (oK (f:=λa=>oH T' lx (a.tmps.getD d undef)) (DD hb).symm))))) r
def St.oL (k:Nat) (U:St c I H Γ a w) (hd:Env.get d Γ=some AV.wN) (hk:H[k]?=some (oH T l (a.tmps.getD d undef))):∃b,St c I (H.set k (Own.box b T l)) ((d,.val (.pointer (some ⟨b,0,none⟩)))::Γ) a w:=by
 obtain⟨b,hb⟩:∃b,a.tmps.getD d undef=.pointer (some ⟨b,0,none⟩):=U.env d _ hd;rw[DD hb] at hk;have e:H.set k (Own.box b T l)=H:=by
  apply List.ext_getElem?;intro j;rw[List.getElem?_set];split
  .rename_i e;subst e;rw[hk];simp[(List.getElem?_eq_some_iff.1 hk).1]
  rfl
 refine⟨b,U.step,by rw[e];exact U.own,λt x e=>?_,U.size,U.defers⟩;simp only[Env.get] at e;cases nQ:Nat.beq d t with
 |true=>
  rw[nQ] at e;simp only[cond_true] at e;cases e
  obtain rfl:d=t:=Nat.eq_of_beq_eq_true nQ
  exact hb
 |false=>rw[nQ] at e;exact U.env t x (by simpa using e)
def aY.DE {d':Nat} {sz:Nat} {l l2:List (List AV)} (k:Nat) (hk:Hf[k]?=some λa=>Own.row (a.tmps.getD d' undef) E sz l) (hd:Nat.blt d c.n=true) (hU:P.underlying T=some (.slice E)) (hE:Ty P E ag sz m zv) (gR:zv.cells.size=sz)
 (hz:At (Γ.only ((⟨some d,.call ⟨.builtin .append,#[.tmp d',z],#[T,T]⟩,ty,p,af,none⟩:Oper).looksAt ops)) true z (.rows sz l2))
 (hb:(l.length+l2.length)*m<=140737488355328/\l.length+l2.length<=140737488355328)
 (r:aY P c ops Q ((d,.rows sz (l++l2))::Γ) (Hf.set k λ_=>Own.gone) os ms):aY P c ops Q Γ Hf (⟨some d,.call ⟨.builtin .append,#[.tmp d',z],#[T,T]⟩,ty,p,af,none⟩::os) (([k],some (k,[]))::ms):=
 aY.cons (u:=some ⟨k,[],λ_=>Own.gone⟩) (x:=.rows sz (l++l2)) (λv e=>by cases e;intro _ _ _;rfl) (λF W0 I0 I a w Q U kk=>by
  have fC:=ml (a:=a) (F:=F) hk;obtain⟨v',w',hr,cA⟩:=U.Dl (ty:=ty) k hU hE gR fC (hz I a U.env rfl) hb.1 (by simp only[maxLen];omega);refine jM rfl ?_;unfold Oper.wp;have e1:a.eval (.tmp d')=a.tmps.getD d' undef:=rfl;simp only[execOp,resolve,invoke,builtin,Sem.run_bind,Sem.run_pure,Result.andThen_ok,List.map_toArray,List.map_cons,List.map_nil,e1,hr];have nR:=cA.nO cA.step (Im.le_refl _) cA.own hd (x:=.val v') rfl;obtain⟨I',gi,hf⟩:=nR.uQ k (by rw[List.getElem?_set_self (List.getElem?_eq_some_iff.1 fC).1]);rw[List.set_set] at gi;have nS:=gi.yw (t:=d) (by simp[Env.get]) hf;refine kk I' _ w' ((nS.le λt x e=>?_).pass (oK rfl));simp only[np,Env.get] at e⊢;cases nQ:Nat.beq d t with
  |true=>rw[nQ] at e;exact e
  |false=>rw[nQ] at e;simpa using e) r
def AV.mO:AV:=⟨λ_ v=>v.oneCell'=true,λ_ _ _ _ h=>h⟩
def aY.Hv {v:Value} {sz:Nat} {l l2:List (List AV)} (k:Nat) (hk:Hf[k]?=some λ_=>Own.row v E sz l) (hd:Nat.blt d c.n=true) (hU:P.underlying T=some (.slice E)) (hE:Ty P E ag sz m zv) (gR:zv.cells.size=sz)
 (hy:At (Γ.only ((⟨some d,.call ⟨.builtin .append,#[y,z],#[T,T]⟩,ty,p,af,none⟩:Oper).looksAt ops)) true y (.val v)) (hz:At (Γ.only ((⟨some d,.call ⟨.builtin .append,#[y,z],#[T,T]⟩,ty,p,af,none⟩:Oper).looksAt ops)) true z (.rows sz l2))
 (hb:(l.length+l2.length)*m<=140737488355328/\l.length+l2.length<=140737488355328)
 (r:aY P c ops Q ((d,AV.mO)::Γ) (Hf.set k λa=>Own.row (a.tmps.getD d undef) E sz (l++l2)) os ms):aY P c ops Q Γ Hf (⟨some d,.call ⟨.builtin .append,#[y,z],#[T,T]⟩,ty,p,af,none⟩::os) (([k],some (k,[d]))::ms):=
 aY.cons (u:=some ⟨k,[d],λa=>Own.row (a.tmps.getD d undef) E sz (l++l2)⟩) (x:=AV.mO) (uY (g:=λv=>Own.row v E sz (l++l2)) λv v' e=>e▸rfl) (λF W0 I0 I a w Q U kk=>U.append k hd hU hE gR hy hz (ml hk) hb λv' a' w' cA=>by
  have hv:a'.tmps.getD d undef=v':=cA.env d (.val v') (by simp[Env.get]);have wR:=cA.own.all (Own.row v' E sz (l++l2)) (List.mem_of_getElem? (i:=k) (by rw[List.getElem?_set_self (List.getElem?_eq_some_iff.1 (ml (a:=a) (F:=F) hk)).1]));have h1:=cA.pass (oK (a':=a') (f:=λa=>Own.row (a.tmps.getD d undef) E sz (l++l2)) (by rw[hv]));exact kk I a' w' ⟨h1.step,h1.own,λt x e=>by
   simp only[np,Env.get] at e;cases hb:Nat.beq d t with
   |true=>
    rw[hb] at e;simp only[cond_true] at e;cases e
    obtain rfl:d=t:=Nat.eq_of_beq_eq_true hb
    show(a'.tmps.getD d undef).oneCell'=true
    rw[hv]
    obtain⟨_,⟨_,rfl|⟨q,rfl,_⟩⟩|⟨b,cap,cur,rfl,_⟩⟩:=wR.1<;>rfl
   |false=>rw[hb] at e;exact h1.env t x (by simp only[Env.get,hb];exact e),h1.size,h1.defers⟩) r
def aY.DF {d' b q:Nat} {l:List AV} (k:Nat) (hk:Hf[k]?=some λ_=>Own.box b T' l) (hT:Ty P T false 1 m zv) (hy:At (Γ.only ((⟨none,.store T y (.tmp d'),ty,p,af,none⟩:Oper).looksAt ops)) true y (.val (.pointer (some ⟨b,q,none⟩))))
 (hz:Env.get d' (Γ.only ((⟨none,.store T y (.tmp d'),ty,p,af,none⟩:Oper).looksAt ops))=some AV.mO) (hq:Nat.blt q l.length=true)
 (r:aY P c ops Q Γ (Hf.set k λa=>Own.box b T' (l.set q (.val (a.tmps.getD d' undef)))) os ms):aY P c ops Q Γ Hf (⟨none,.store T y (.tmp d'),ty,p,af,none⟩::os) (([k],some (k,[d']))::ms):=
 aY.cons (u:=some ⟨k,[d'],λa=>Own.box b T' (l.set q (.val (a.tmps.getD d' undef)))⟩) (x:=AV.any) (uY (g:=λv=>Own.box b T' (l.set q (.val v))) λv v' e=>e▸rfl) (λF W0 I0 I a w Q U kk=>by
  have hb:=hy I a U.env rfl;have h1:(a.tmps.getD d' undef).oneCell'=true:=U.env d' _ hz;have hc:=AN h1;have M5:q<l.length:=by simpa using hq
  obtain⟨w',hr,cA⟩:=U.Di (q:=q) (lx:=[.val (a.tmps.getD d' undef)]) (v:=a.tmps.getD d' undef) k hT (ml hk) (by rw[hc];exact⟨⟨rfl,h1⟩,trivial⟩) rfl gQ;rw[M6 M5] at cA;exact jM rfl (yt hb rfl hr (kk I _ w' (cA.pass (oK (f:=λa=>Own.box b T' (l.set q (.val (a.tmps.getD d' undef)))) rfl))))) r
def AV.bare:AV:=⟨λ_ v=>wz v,λ_ _ _ _ h=>h⟩
def uZ {H:List Own} {g:Bool} {d:Option Tmp} {gd:Option (Nat×Bool)} {sz:Nat} (hT:P.underlying T=some (.slice E)) (hE:Ty P E ag sz m zv):Ok P H Γ g ⟨d,.buildSlice T 0 #[],ty,p,af,gd⟩ AV.bare:=
 λbase I a w K Q he hm hw hg k=>by
  have jB:(sizeOf E).run P w=.ok sz w:=hE.size;have hr:(Instr.buildSlice T 0 ((#[]:Array (Nat×Operand)).map λ(i,x)=>(i,a.eval x))).run P w=.ok (.slice (some ⟨w.heap.size,0,none⟩) 0 0) (w.alloc (.cells #[] E)):=by
   simp only[Instr.buildSlice,Sem.run_bind,run_underlying hT,Result.andThen_ok,jB];have e0:Array.range 0=#[]:=rfl;simp[Instr.fill,Dp,e0]
  unfold Oper.wp;simp only[execOp,Sem.run_bind,hr,Result.andThen_ok,Sem.run_pure,Oper.upon_value];exact k _ I _ (.inr ⟨⟨w.heap.size,0,none⟩,rfl,rfl⟩) (Step.alloc hm (.cells #[] E))
def DG {H:List Own} {g:Bool} {d:Option Tmp} {gd:Option (Nat×Bool)} {sz:Nat} {l2:List (List AV)} (hU:P.underlying T=some (.slice E)) (hE:Ty P E ag sz m zv) (gR:zv.cells.size=sz) (hy:At Γ g y AV.bare) (hz:At Γ g z (.rows sz l2)) (hb:g=true->l2.length*m<=140737488355328/\l2.length<=140737488355328):
 Ok P H Γ g ⟨d,.call ⟨.builtin .append,#[y,z],#[T,T]⟩,ty,p,af,gd⟩ (.rows sz l2):=
 λbase I a w K Q he hm hw hg k=>by
  have tx:wz (a.eval y):=hy I a he hg;have wS:St ⟨w,I,0,lF⟩ I [] [] {tmps:=#[],defers:=[]} w:=⟨fV.refl hm,cq.nil _ _ _,λt x e=>by simp[Env.get] at e,rfl,rfl⟩;have jB:=wS.Dj (sz:=sz) E tx;obtain⟨v',w',hr,gi⟩:=jB.Dl (ty:=ty) 0 hU hE gR rfl (hz I a he hg) (by simpa using(hb hg).1) (by have:=(hb hg).2;simp only[maxLen];simp;omega);obtain⟨I',nS,hv⟩:=gi.uQ 0 rfl;unfold Oper.wp;simp only[execOp,resolve,invoke,builtin,Sem.run_bind,Sem.run_pure,Result.andThen_ok,List.map_toArray,List.map_cons,List.map_nil,hr];exact k v' I' w' hv nS.step.all
def aY.Bb {sz:Nat} {l2:List (List AV)} (k:Nat) (hk:Hf[k]?=some λ_=>Own.gone) (hd:Nat.blt d c.n=true) (hU:P.underlying T=some (.slice E)) (hE:Ty P E ag sz m zv) (gR:zv.cells.size=sz)
 (hy:At (Γ.only ((⟨some d,.call ⟨.builtin .append,#[y,z],#[T,T]⟩,ty,p,af,none⟩:Oper).looksAt ops)) true y AV.bare) (hz:At (Γ.only ((⟨some d,.call ⟨.builtin .append,#[y,z],#[T,T]⟩,ty,p,af,none⟩:Oper).looksAt ops)) true z (.rows sz l2))
 (hb:l2.length*m<=140737488355328/\l2.length<=140737488355328)
 (r:aY P c ops Q ((d,AV.mO)::Γ) (Hf.set k λa=>Own.row (a.tmps.getD d undef) E sz l2) os ms):aY P c ops Q Γ Hf (⟨some d,.call ⟨.builtin .append,#[y,z],#[T,T]⟩,ty,p,af,none⟩::os) (([k],some (k,[d]))::ms):=
 aY.cons (u:=some ⟨k,[d],λa=>Own.row (a.tmps.getD d undef) E sz l2⟩) (x:=AV.mO) (uY (g:=λv=>Own.row v E sz l2) λv v' e=>e▸rfl) (λF W0 I0 I a w Q U kk=>by
  have tx:wz (a.eval y):=hy I a U.env rfl;have hlen:=List.getElem?_eq_some_iff.1 (ml (a:=a) (F:=F) hk);have jB:=(U.Dj (sz:=sz) E tx).Ba k (ml (a:=a) (F:=F) hk);have lJ:((eU [k] a F 0 Hf).set k (Own.row (a.eval y) E sz []))[k]?=some (Own.row (a.eval y) E sz []):=by rw[List.getElem?_set_self hlen.1]
  obtain⟨v',w',hr,cA⟩:=jB.Dl (ty:=ty) k hU hE gR lJ (hz I a U.env rfl) (by simpa using hb.1) (by simp only[maxLen];simp;omega);rw[List.set_set,List.nil_append] at cA;refine jM rfl ?_;unfold Oper.wp;simp only[execOp,resolve,invoke,builtin,Sem.run_bind,Sem.run_pure,Result.andThen_ok,List.map_toArray,List.map_cons,List.map_nil,hr];have wR:=cA.own.all (Own.row v' E sz l2) (List.mem_of_getElem? (i:=k) (by rw[List.getElem?_set_self hlen.1]));have h1:v'.oneCell'=true:=by
   obtain⟨_,⟨_,rfl|⟨q,rfl,_⟩⟩|⟨b,cap,cur,rfl,_⟩⟩:=wR.1<;>rfl
  have nR:=cA.nO (d:=d) (v:=v') (x:=AV.mO) cA.step (Im.le_refl _) cA.own hd h1;refine kk I _ w' (nR.pass (oK (a':=a.put (some d) v') (f:=λa=>Own.row (a.tmps.getD d undef) E sz l2) ?_));have:(a.put (some d) v').tmps.getD d undef=v':=by
   have jX:d<c.n:=by simpa using hd
   have cT:=U.size;simp[Act.put,cT,jX]
  rw[this]) r
end
end Go.Proofs.YtdanidpleofjgaaGreat
