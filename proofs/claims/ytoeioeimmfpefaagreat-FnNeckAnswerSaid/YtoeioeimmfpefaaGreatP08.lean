/- Part 8: rules of the proofs, contracts of functions, plain facts. -/
import Derived.Test.YtoeioeimmfpefaaGreatP07
set_option linter.unusedVariables false
set_option linter.unusedSimpArgs false
namespace Go.Proofs.YtoeioeimmfpefaaGreat
open Go Go.RowKit
structure lj where
 k:Nat
 aS:List Nat
 f:Act→Own
structure Rec where
 x:AV
 T:List Nat
 u:Option lj
def lj.fit (u:lj):Prop:=∀a a':Act,(∀d∈u.aS,a.tmps.getD d undef=a'.tmps.getD d undef)→u.f a=u.f a'
def jB (d:Option Nat) (x:AV) (Γ:Env):Env:=match d with|some d=>(d,x)::Γ|none=>Γ
def g7 (H:List (Act→Own)):Option lj→List (Act→Own)
 |none=>H
 |some u=>H.set u.k u.f
def cellAt (S:Nat→Bool) (k:Nat):Nat→List Rec→(Act→Own)→Act→Own
 |_,[],f=>f
 |i,r::rs,f=>cellAt S k (i+1) rs (match r.u with|none=>f|some u=>bif S i&&Nat.beq u.k k then u.f else f)
def dG (S:Nat→Bool) (i:Nat) (rs:List Rec):Nat→List (Act→Own)→List (Act→Own)
 |_,[]=>[]
 |k,f::fs=>cellAt S k i rs f::dG S i rs (k+1) fs
def dy (T:List Nat) (a:Act) (F:Nat→Own):Nat→List (Act→Own)→List Own
 |_,[]=>[]
 |k,f::fs=>(bif T.contains k then f a else F k)::dy T a F (k+1) fs
def gy (a:Act) (H:List (Act→Own)):List Own:=H.map fun f=>f a
theorem iN {S:Nat→Bool} {i:Nat} {rs:List Rec}:∀(k:Nat) (H:List (Act→Own)) (j:Nat),(dG S i rs k H)[j]?=(H[j]?).map (cellAt S (k+j) i rs)
 |_,[],j=>by simp[dG]
 |k,f::fs,0=>by simp[dG]
 |k,f::fs,j+1=>by
  simp only[dG,List.getElem?_cons_succ]
  rw[iN (k+1) fs j]
  have e:k+1+j=k+(j+1):=by omega
  rw[e]
theorem r9 {T:List Nat} {a:Act} {F:Nat→Own}:∀(k:Nat) (H:List (Act→Own)) (j:Nat),(dy T a F k H)[j]?=(H[j]?).map (fun f=>bif T.contains (k+j) then f a else F (k+j))
 |_,[],j=>by simp[dy]
 |k,f::fs,0=>by simp[dy]
 |k,f::fs,j+1=>by
  simp only[dy,List.getElem?_cons_succ]
  rw[r9 (k+1) fs j]
  have e:k+1+j=k+(j+1):=by omega
  rw[e]
theorem sa {S:Nat→Bool} {i:Nat} {rs:List Rec}:∀(k:Nat) (H:List (Act→Own)),(dG S i rs k H).length=H.length
 |_,[]=>rfl
 |k,f::fs=>by simp[dG,sa (k+1) fs]
theorem qM {S S':Nat→Bool} {k:Nat}:∀(i:Nat) (rs:List Rec) (f:Act→Own),(∀(j:Nat) (r:Rec) (u:lj),rs[j]?=some r→r.u=some u→u.k=k→S (i+j)=S' (i+j))→cellAt S k i rs f=cellAt S' k i rs f
 |_,[],_,_=>rfl
 |i,r::rs,f,h=>by
  have ih:=fun f=>qM (S:=S) (S':=S') (k:=k) (i+1) rs f fun j r' u h1 h2 h3=>by
   have:=h (j+1) r' u (by simpa using h1) h2 h3
   have e:i+1+j=i+(j+1):=by omega
   rw[e];exact this
  simp only[cellAt]
  rw[ih]
  cases hu:r.u with
  |none=>rfl
  |some u=>
   simp only[]
   cases hb:Nat.beq u.k k with
   |false=>simp
   |true=>rw[show S i=S' i from h 0 r u rfl hu (Nat.eq_of_beq_eq_true hb)]
theorem Bc {S:Nat→Bool} {k:Nat}:∀(i:Nat) (rs:List Rec) (f:Act→Own),(∀j,i≤j→S j=false)→cellAt S k i rs f=f
 |_,[],_,_=>rfl
 |i,r::rs,f,h=>by
  simp only[cellAt]
  rw[Bc (i+1) rs _ fun j hj=>h j (by omega)]
  cases r.u with
  |none=>rfl
  |some u=>simp[h i (Nat.le_refl _)]
theorem Bd {S:Nat→Bool} {k:Nat}:∀(i:Nat) (rs:List Rec) (f:Act→Own) (j:Nat) (r:Rec) (u:lj),rs[j]?=some r→r.u=some u→u.k=k→S (i+j)=true→
 (∀(j':Nat) (r':Rec) (u':lj),rs[j']?=some r'→r'.u=some u'→u'.k=k→j<j'→S (i+j')=false)→cellAt S k i rs f=u.f
 |_,[],_,_,_,_,h,_,_,_,_=>by simp at h
 |i,r0::rs,f,0,r,u,h1,h2,h3,h4,h5=>by
  simp at h1;subst h1
  simp only[cellAt,h2]
  have hb:Nat.beq u.k k=true:=by rw[h3];exact Nat.beq_refl k
  have NB:S i=true:=h4
  rw[hb,NB]
  simp only[Bool.and_self,cond_true]
  have:=qM (S:=S) (S':=fun _=>false) (k:=k) (i+1) rs u.f fun j' r' u' g1 g2 g3=>by
   have:=h5 (j'+1) r' u' (by simpa using g1) g2 g3 (by omega)
   rw[show i+1+j'=i+(j'+1) from by omega];exact this
  rw[this]
  exact Bc _ _ _ fun _ _=>rfl
 |i,r0::rs,f,j+1,r,u,h1,h2,h3,h4,h5=>by
  simp only[cellAt]
  exact Bd (i+1) rs _ j r u (by simpa using h1) h2 h3 (by rw[show i+1+j=i+(j+1) from by omega];exact h4) fun j' r' u' g1 g2 g3 g4=>by
   have:=h5 (j'+1) r' u' (by simpa using g1) g2 g3 (by omega)
   rw[show i+1+j'=i+(j'+1) from by omega];exact this
theorem Be {S:Nat→Bool} {k:Nat} {a a':Act}:∀(i:Nat) (rs:List Rec) (f:Act→Own),f a=f a'→(∀(j:Nat) (r:Rec) (u:lj),rs[j]?=some r→r.u=some u→S (i+j)=true→u.f a=u.f a')→cellAt S k i rs f a=cellAt S k i rs f a'
 |_,[],_,h,_=>h
 |i,r::rs,f,h,hd=>by
  simp only[cellAt]
  refine Be (i+1) rs _ ?_ fun j r' u h1 h2 h3=>hd (j+1) r' u (by simpa using h1) h2 (by rw[show i+(j+1)=i+1+j from by omega];exact h3)
  cases hu:r.u with
  |none=>exact h
  |some u=>
   simp only[]
   cases hb:S i&&Nat.beq u.k k with
   |false=>exact h
   |true=>exact hd 0 r u rfl hu (by simp only[Bool.and_eq_true] at hb;exact hb.1)
theorem FY {S:Nat→Bool} {i:Nat} {r:Rec} {rs:List Rec} {H:List (Act→Own)} (hS:S i=true):dG S (i+1) rs 0 (g7 H r.u)=dG S i (r::rs) 0 H:=by
 apply List.ext_getElem?
 intro j
 rw[iN,iN]
 cases hu:r.u with
 |none=>simp[g7,cellAt,hu]
 |some u=>
  simp only[g7,List.getElem?_set]
  by_cases hk:u.k=j
  ·subst hk
   by_cases hl:u.k<H.length
   ·simp[hl,cellAt,hu,hS]
   ·simp[hl]
  ·rw[if_neg hk]
   have hb:Nat.beq u.k j=false:=by
    cases hb:Nat.beq u.k j with
    |false=>rfl
    |true=>exact absurd (Nat.eq_of_beq_eq_true hb) hk
   cases H[j]? with
   |none=>rfl
   |some f=>simp[cellAt,hu,hb]
theorem Bf {S:Nat→Bool} {i:Nat} {rs:List Rec} {H:List (Act→Own)} (h:∀j,i≤j→S j=false):dG S i rs 0 H=H:=by
 apply List.ext_getElem?
 intro j
 rw[iN]
 cases H[j]? with
 |none=>rfl
 |some f=>simp[Bc i rs f h]
def vE (P:Program) (n:Nat) (ops:Array Oper) (H H':List (Act→Own)) (T:List Nat) (Γ:Env) (o:Oper) (x:AV):Prop:=
 ∀(F:Nat→Own) (W0:World×(Nat→Prop)) (I0 I:Im) (a:Act) (w:World) (Q:Exit→Act→World→Prop),St ⟨W0.1,I0,n,W0.2⟩ I (dy T a F 0 H) Γ a w→
  (∀I' a' w',St ⟨W0.1,I0,n,W0.2⟩ I' (dy T a' F 0 H') (jB o.dst x Γ) a' w'→wpList P ops Q [] a' w')→wpList P ops Q [o] a w
def sd (P:Program) (n:Nat) (ops:Array Oper):Env→List (Act→Own)→List Oper→List Rec→Prop
 |_,_,[],[]=>True
 |Γ,H,o::os,r::rs=>vE P n ops H (g7 H r.u) r.T (Γ.only (o.looksAt ops)) o r.x∧(∀u,r.u=some u→u.fit)∧sd P n ops (jB o.dst r.x Γ) (g7 H r.u) os rs
 |_,_,_,_=>False
def da:Nat→List Oper→List Rec→List lL
 |k,o::os,r::rs=>match o.dst with|some d=>(k,d,r.x)::da (k+1) os rs|none=>da (k+1) os rs
 |_,_,_=>[]
theorem xW:∀(k:Nat) (os:List Oper) (rs:List Rec),(da k os rs).Pairwise (fun e f=>e.1<f.1)∧∀e∈da k os rs,k≤e.1
 |k,[],_=>by simp[da]
 |k,o::os,[]=>by simp[da]
 |k,o::os,r::rs=>by
  have ih:=xW (k+1) os rs
  simp only[da]
  split
  ·refine⟨List.pairwise_cons.2 ⟨fun e he=>by have:=ih.2 e he;simp;omega,ih.1⟩,fun e he=>?_⟩
   rcases List.mem_cons.1 he with rfl|he
   ·simp
   ·have:=ih.2 e he;omega
  ·exact⟨ih.1,fun e he=>by have:=ih.2 e he;omega⟩
theorem Bg {e:lL}:∀{k:Nat} {os:List Oper} {rs:List Rec},e∈da k os rs→∃i o r,os[i]?=some o∧rs[i]?=some r∧e.1=k+i∧o.dst=some e.2.1∧e.2.2=r.x
 |k,[],_,h=>by simp[da] at h
 |k,o::os,[],h=>by simp[da] at h
 |k,o::os,r::rs,h=>by
  simp only[da] at h
  have key:e∈da (k+1) os rs→∃i o' r',(o::os)[i]?=some o'∧(r::rs)[i]?=some r'∧e.1=k+i∧o'.dst=some e.2.1∧e.2.2=r'.x:=fun h=>by
   obtain⟨i,o',r',h1,h2,h3,h4⟩:=Bg h
   exact⟨i+1,o',r',by simpa using h1,by simpa using h2,by omega,h4⟩
  split at h
  ·rename_i d hd
   rcases List.mem_cons.1 h with rfl|h
   ·exact⟨0,o,r,rfl,rfl,rfl,hd,rfl⟩
   ·exact key h
  ·exact key h
theorem FZ {i d:Nat} {o:Oper} {r:Rec} (hd:o.dst=some d):∀{k:Nat} {os:List Oper} {rs:List Rec},os[i]?=some o→rs[i]?=some r→(k+i,d,r.x)∈da k os rs:=by
 induction i with
 |zero=>intro k os rs h1 h2;cases os<;>cases rs<;>simp at h1 h2;subst h1 h2;simp[da,hd]
 |succ i ih=>
  intro k os rs h1 h2
  cases os with
  |nil=>simp at h1
  |cons o' os=>cases rs with
   |nil=>simp at h2
   |cons r' rs=>
    simp at h1 h2
    have:=ih (k:=k+1) h1 h2
    rw[show k+(i+1)=k+1+i from by omega]
    simp only[da]
    split
    ·exact List.mem_cons_of_mem _ this
    ·exact this
def tN (Γ:Env):List Oper→List Rec→Env
 |o::os,r::rs=>tN (jB o.dst r.x Γ) os rs
 |_,_=>Γ
theorem Bh:∀(os:List Oper) (rs:List Rec) (k:Nat) (Γ:Env),tN Γ os rs=c5 (da k os rs).reverse++Γ
 |[],_,_,_=>by simp[tN,da,c5]
 |_::_,[],_,_=>by simp[tN,da,c5]
 |o::os,r::rs,k,Γ=>by
  rw[tN,Bh os rs (k+1)]
  simp only[da]
  cases o.dst with
  |none=>rfl
  |some d=>simp[c5,jB]
def xX (H:List (Act→Own)):List Rec→List (Act→Own)
 |r::rs=>xX (g7 H r.u) rs
 |[]=>H
theorem Bi:∀(rs:List Rec) (i:Nat) (H:List (Act→Own)),xX H rs=dG (fun _=>true) i rs 0 H
 |[],i,H=>by
  apply List.ext_getElem?;intro j;rw[iN]
  show H[j]?=_
  cases H[j]?<;>rfl
 |r::rs,i,H=>by rw[xX,Bi rs (i+1),FY rfl]
theorem sd.at {P:Program} {n:Nat} {ops:Array Oper} {Γ0:Env}:∀(os:List Oper) (rs:List Rec) (k:Nat) (H:List (Act→Own)) (done:List lL),sd P n ops (c5 done++Γ0) H os rs→(∀e∈done,e.1<k)→
 os.length=rs.length∧(∀(i:Nat) (r:Rec) (u:lj),rs[i]?=some r→r.u=some u→u.fit)∧∀(i:Nat) (o:Oper) (r:Rec),os[i]?=some o→rs[i]?=some r→
  vE P n ops (dG (fun j=>decide (j<k+i)) k rs 0 H) (g7 (dG (fun j=>decide (j<k+i)) k rs 0 H) r.u) r.T ((c5 (((da k os rs).reverse++done).filter fun e=>decide (e.1<k+i))++Γ0).only (o.looksAt ops)) o r.x
 |[],[],_,_,_,_,_=>⟨rfl,fun i r u h=>by simp at h,fun i o r h=>by simp at h⟩
 |o::os,r::rs,k,H,done,h,hd=>by
  obtain⟨h1,hf,h2⟩:=h
  have e0:jB o.dst r.x (c5 done++Γ0)=c5 (match o.dst with|some d=>(k,d,r.x)::done|none=>done)++Γ0:=by
   cases o.dst with
   |none=>rfl
   |some d=>simp[jB,c5]
  rw[e0] at h2
  have ih:=sd.at os rs (k+1) (g7 H r.u) _ h2 (fun e he=>by
   split at he
   ·rcases List.mem_cons.1 he with rfl|he
    ·simp
    ·have:=hd e he;omega
   ·have:=hd e he;omega)
  have vo:(da k (o::os) (r::rs)).reverse++done=(da (k+1) os rs).reverse++(match o.dst with|some d=>(k,d,r.x)::done|none=>done):=by
   simp only[da]
   cases o.dst with
   |none=>rfl
   |some d=>simp
  refine⟨by simp[ih.1],fun i r' u g1 g2=>?_,fun i o' r' ho hr=>?_⟩
  ·cases i with
   |zero=>simp at g1;subst g1;exact hf u g2
   |succ i=>exact ih.2.1 i r' u (by simpa using g1) g2
  ·rw[vo]
   cases i with
   |zero=>
    simp at ho hr;subst ho hr
    have iZ:((da (k+1) os rs).reverse++(match o.dst with|some d=>(k,d,r.x)::done|none=>done)).filter (fun e=>decide (e.1<k+0))=done:=by
     rw[List.filter_append]
     have e1:(da (k+1) os rs).reverse.filter (fun e=>decide (e.1<k+0))=[]:=by
      rw[List.filter_eq_nil_iff]
      intro e he
      have:=(xW (k+1) os rs).2 e (List.mem_reverse.1 he)
      simp;omega
     have e2:done.filter (fun e=>decide (e.1<k+0))=done:=by
      rw[List.filter_eq_self];intro e he;simpa using hd e he
     rw[e1]
     split
     ·rw[List.filter_cons]
      simp only[Nat.add_zero,Nat.lt_irrefl,decide_false,Bool.false_eq_true,if_false,List.nil_append]
      simpa using e2
     ·simpa using e2
    rw[iZ,Bf fun j hj=>by simp;omega]
    exact h1
   |succ i=>
    have:=ih.2.2 i o' r' (by simpa using ho) (by simpa using hr)
    rw[FY (by simp;omega)] at this
    rw[show k+(i+1)=k+1+i from by omega]
    exact this
 |[],_::_,_,_,_,h,_=>h.elim
 |_::_,[],_,_,_,h,_=>h.elim
abbrev Meta:=List (List Nat×Option (Nat×List Nat))
def Rec.j8 (r:Rec):List Nat×Option (Nat×List Nat):=(r.T,r.u.map fun u=>(u.k,u.aS))
def mH (l:List Oper) (ms:Meta):Bool:=
 let C:=fy [] l
 let before:=fun(i j:Nat)=>if j<i then(C.getD i []).contains j else(C.getD j []).contains i
 (l.zipIdx.all fun(o,i)=>(o.after.toList.all fun e=>!Region.binds .any e||Nat.blt e.on i)&&
   (slotsOf l.toArray o).all fun t=>l.zipIdx.all fun(o',j)=>Nat.beq i j||!(o'.dst==some t)||before i j)&&
 (ms.zipIdx.all fun(m,i)=>(m.1.all fun k=>ms.zipIdx.all fun(m',j)=>Nat.beq i j||(match m'.2 with|some u=>!Nat.beq u.1 k|none=>true)||before i j)&&
   (match m.2 with|some u=>m.1.contains u.1|none=>true))&&
 (l.zipIdx.all fun(o,i)=>match o.dst with|none=>true|some d=>ms.zipIdx.all fun(m,j)=>Nat.beq i j||(match m.2 with|some u=>!u.2.contains d|none=>true)||(C.getD j []).contains i)
theorem Bj {i j:Nat} (h:i≠j):Nat.beq i j=false:=by
 cases hb:Nat.beq i j with
 |false=>rfl
 |true=>exact absurd (Nat.eq_of_beq_eq_true hb) h
theorem F0 {l:List Oper} {ms:Meta} (h:mH l ms=true) {i:Nat} {o:Oper} (ho:l[i]?=some o):∀e∈o.after.toList,Region.binds .any e=true→e.on<i:=fun e he hb=>by
 simp only[mH,List.all_eq_true,Bool.and_eq_true] at h
 have hm:(o,i)∈l.zipIdx:=by rw[List.mem_zipIdx_iff_getElem?];exact ho
 have:=(h.1.1 _ hm).1 e he
 rw[hb] at this
 simpa using this
theorem F1 {l:List Oper} {ms:Meta} (h:mH l ms=true) {i:Nat} {o:Oper} (ho:l[i]?=some o):
 ∀t∈slotsOf l.toArray o,∀j o',l[j]?=some o'→i≠j→o'.dst=some t→if j<i then j∈(fy [] l).getD i [] else i∈(fy [] l).getD j []:=fun t ht j o' eR bn hd=>by
 simp only[mH,List.all_eq_true,Bool.and_eq_true] at h
 have hm:(o,i)∈l.zipIdx:=by rw[List.mem_zipIdx_iff_getElem?];exact ho
 have j5:(o',j)∈l.zipIdx:=by rw[List.mem_zipIdx_iff_getElem?];exact eR
 have:=(h.1.1 _ hm).2 t ht _ j5
 simp only[Bj bn,hd,Bool.false_or] at this
 have h4:(!(some t==some t))=false:=by simp
 rw[h4,Bool.false_or] at this
 split
 ·rename_i bJ;rw[if_pos bJ] at this;simpa using this
 ·rename_i bJ;rw[if_neg bJ] at this;simpa using this
theorem F3 {l:List Oper} {rs:List Rec} (h:mH l (rs.map Rec.j8)=true) {i:Nat} {r:Rec} (hr:rs[i]?=some r):
 (∀k∈r.T,∀j r' u,rs[j]?=some r'→i≠j→r'.u=some u→u.k=k→if j<i then j∈(fy [] l).getD i [] else i∈(fy [] l).getD j [])∧∀u,r.u=some u→u.k∈r.T:=by
 simp only[mH,List.all_eq_true,Bool.and_eq_true] at h
 have hm:(r.j8,i)∈(rs.map Rec.j8).zipIdx:=by rw[List.mem_zipIdx_iff_getElem?];simp[hr]
 obtain⟨h1,h2⟩:=h.1.2 _ hm
 refine⟨fun k hk j r' u NC bn hu ND=>?_,fun u hu=>?_⟩
 ·have j5:(r'.j8,j)∈(rs.map Rec.j8).zipIdx:=by rw[List.mem_zipIdx_iff_getElem?];simp[NC]
  have:=h1 k hk _ j5
  have hb:Nat.beq u.k k=true:=by rw[ND];exact Nat.beq_refl k
  simp only[Bj bn,Rec.j8,hu,Option.map_some,hb,Bool.not_true,Bool.false_or] at this
  split
  ·rename_i bJ;rw[if_pos bJ] at this;simpa using this
  ·rename_i bJ;rw[if_neg bJ] at this;simpa using this
 ·simp only[Rec.j8,hu,Option.map_some] at h2
  simpa using h2
theorem F4 {l:List Oper} {rs:List Rec} (h:mH l (rs.map Rec.j8)=true) {i d:Nat} {o:Oper} (ho:l[i]?=some o) (hd:o.dst=some d) {j:Nat} {r:Rec} {u:lj} (hr:rs[j]?=some r) (hu:r.u=some u) (bn:i≠j) (xY:d∈u.aS):
 i∈(fy [] l).getD j []:=by
 simp only[mH,List.all_eq_true,Bool.and_eq_true] at h
 have hm:(o,i)∈l.zipIdx:=by rw[List.mem_zipIdx_iff_getElem?];exact ho
 have:=h.2 _ hm
 simp only[hd,List.all_eq_true] at this
 have j5:(r.j8,j)∈(rs.map Rec.j8).zipIdx:=by rw[List.mem_zipIdx_iff_getElem?];simp[hr]
 have:=this _ j5
 simp only[Bj bn,Rec.j8,hu,Option.map_some,Bool.false_or,Bool.or_eq_true,Bool.not_eq_true'] at this
 rcases this with h|h
 ·have:u.aS.contains d=true:=by simpa using xY
  rw[this] at h;cases h
 ·simpa using h
section
variable {P:Program} {c:Ctx} {I:Im} {H:List Own} {Γ:Env} {a:Act} {w:World} {Q:Exit→Act→World→Prop}
theorem F5 {o:Oper} {K:Act→World→Prop} {Q':Exit→Act→World→Prop} (hq:∀e a w,e≠.normal→Q' e a w→Q e a w) (h:o.wp P a w K Q'):o.wp P a w (fun a' w'=>(∃v,a'.tmps=(a.put o.dst v).tmps)∧K a' w') Q:=by
 unfold Oper.wp at h⊢
 generalize (execOp a.eval o).run P w=r at h⊢
 cases r with
 |ok n w'=>
  cases n with
  |enter f args=>
   refine Calls.mono h fun e rL he=>?_
   cases e with
   |returned v=>exact⟨⟨v,rfl⟩,he⟩
   |panicked ch=>exact hq _ _ _ (by simp) he
   |outgrown=>exact let⟨a,w,h⟩:=he;⟨a,w,hq _ _ _ (by simp) h⟩
  |row row args=>exact Rows.mono h fun v rL he=>⟨⟨v,rfl⟩,he⟩
  |value v=>exact⟨⟨v,rfl⟩,h⟩
  |skip=>exact⟨⟨undef,rfl⟩,h⟩
  |defer d=>exact⟨⟨undef,by cases o.dst<;>rfl⟩,h⟩
  |_=>exact h
 |halt x w'=>cases x<;>simp only[Oper.upon] at h⊢<;>first|exact h|exact hq _ _ _ (by simp) h
theorem xZ {T:List Nat} {F:Nat→Own} {Hf:List (Act→Own)} {X:List Own} (hl:X.length=Hf.length) (h:∀j f x,Hf[j]?=some f→X[j]?=some x→x=bif T.contains j then f a else F j):dy T a F 0 Hf=X:=by
 apply List.ext_getElem?
 intro j
 rw[r9]
 cases hf:Hf[j]? with
 |none=>
  have:Hf.length≤j:=by simpa using hf
  rw[List.getElem?_eq_none (by omega)];rfl
 |some f=>
  have hj:j<Hf.length:=(List.getElem?_eq_some_iff.1 hf).1
  have hx:X[j]?=some X[j]:=by simp[hl,hj]
  rw[hx]
  simp only[Option.map_some,Nat.zero_add]
  rw[←h j f _ hf hx]
theorem St.F6 (hs:St c I H Γ a w):St ⟨c.W,I,c.n,c.F⟩ I H Γ a w:=
 ⟨⟨Im.le_refl I,fun _ _ _=>rfl,hs.step.cE,hs.step.below⟩,hs.own,hs.env,hs.size,hs.defers⟩
theorem NF {l:List Oper} {rs:List Rec} {H0:List Own} (dx:mH l (rs.map Rec.j8)=true) (hlen:l.length=rs.length) (nr:(l.all fun o=>match o.dst with|some d=>Nat.blt d c.n|none=>true)=true)
 (ik:∀(i:Nat) (r:Rec) (u:lj),rs[i]?=some r→r.u=some u→u.fit)
 (run:∀(i:Nat) (o:Oper) (r:Rec),l[i]?=some o→rs[i]?=some r→vE P c.n l.toArray (dG (fun j=>decide (j<i)) 0 rs 0 (H0.map fun o _=>o)) (g7 (dG (fun j=>decide (j<i)) 0 rs 0 (H0.map fun o _=>o)) r.u) r.T ((c5 ((da 0 l rs).reverse.filter fun e=>decide (e.1<i))++Γ).only (o.looksAt l.toArray)) o r.x)
 (k:∀I' a' w',St c I' (gy a' (dG (fun _=>true) 0 rs 0 (H0.map fun o _=>o))) (c5 (da 0 l rs).reverse++Γ) a' w'→Q .normal a' w'):
 ∀(fuel:Nat) (listed:Array Bool) (I:Im) (a:Act) (w:World),listed.size=l.length→((List.range l.length).filter fun i=>!listed.getD i false).length≤fuel→
  (∀(i:Nat) (o:Oper),l[i]?=some o→listed.getD i false=true→∀e∈o.after.toList,Region.binds .any e=true→listed.getD e.on false=true)→
  St c I (gy a (dG (fun i=>listed.getD i false) 0 rs 0 (H0.map fun o _=>o))) (c5 ((da 0 l rs).reverse.filter fun e=>listed.getD e.1 false)++Γ) a w→wpAny P .any l.toArray Q fuel listed a w:=by
 have hL:(da 0 l rs).reverse.Pairwise (fun e f=>f.1<e.1):=by
  rw[List.pairwise_reverse];exact(xW 0 l rs).1
 have jh:∀e∈(da 0 l rs).reverse,∃o',l[e.1]?=some o'∧o'.dst=some e.2.1:=fun e he=>by
  obtain⟨j,o',r',g1,_,g3,g4,_⟩:=Bg (List.mem_reverse.1 he)
  exact⟨o',by rw[g3,Nat.zero_add];exact g1,g4⟩
 have x3:∀(listed:Array Bool) (I:Im) (a:Act) (w:World),(∀i,i<l.length→listed.getD i false=true)→
  St c I (gy a (dG (fun i=>listed.getD i false) 0 rs 0 (H0.map fun o _=>o))) (c5 ((da 0 l rs).reverse.filter fun e=>listed.getD e.1 false)++Γ) a w→Q .normal a w:=fun listed I a w aT hs=>by
  refine k I a w ?_
  have e1:(da 0 l rs).reverse.filter (fun e=>listed.getD e.1 false)=(da 0 l rs).reverse:=by
   rw[List.filter_eq_self]
   intro e he
   obtain⟨o',h1,_⟩:=jh e he
   exact aT e.1 (List.getElem?_eq_some_iff.1 h1).1
  have e2:dG (fun i=>listed.getD i false) 0 rs 0 (H0.map fun o _=>o)=dG (fun _=>true) 0 rs 0 (H0.map fun o _=>o):=by
   apply List.ext_getElem?
   intro j
   rw[iN,iN]
   cases(H0.map fun(o:Own) (_:Act)=>o)[j]? with
   |none=>rfl
   |some f=>
    simp only[Option.map_some]
    rw[qM (S:=fun i=>listed.getD i false) (S':=fun _=>true) 0 rs f fun j r u h1 _ _=>by
     rw[Nat.zero_add];exact aT j (by rw[hlen];exact(List.getElem?_eq_some_iff.1 h1).1)]
  rw[e1,e2] at hs
  exact hs
 intro fuel
 induction fuel with
 |zero=>
  intro listed I a w cr hf bB hs
  have h0:∀i,i<l.length→listed.getD i false=true:=fun i hi=>by
   have:(List.range l.length).filter (fun i=>!listed.getD i false)=[]:=List.eq_nil_of_length_eq_zero (by omega)
   rw[List.filter_eq_nil_iff] at this
   simpa using this i (by simpa using hi)
  refine⟨?_,x3 listed I a w h0 hs⟩
  rw[List.eq_nil_iff_forall_not_mem]
  intro i hi
  obtain⟨h1,o,h2,_⟩:=mem_ready.1 hi
  have bJ:i<l.length:=by have:=(Array.getElem?_eq_some_iff.1 h2).1;simpa using this
  rw[om (by omega),h0 i bJ] at h1;cases h1
 |succ fuel ih=>
  intro listed I a w cr hf bB hs
  refine⟨fun hr=>?_,fun i hi=>?_⟩
  ·refine x3 listed I a w (fun i=>?_) hs
   induction i using Nat.strongRecOn with
   |_ i rN=>
    intro hi
    cases hl:listed.getD i false with
    |true=>rfl
    |false=>
     have nq:i∈Region.ready .any l.toArray listed:=by
      refine mem_ready.2 ⟨by rw[om (by omega)];exact hl,l[i],by simp[hi],fun e he hb=>?_⟩
      have bJ:=F0 dx (i:=i) (o:=l[i]) (by simp[hi]) e (by simpa using he) hb
      exact rN e.on bJ (by omega)
     rw[hr] at nq;cases nq
  ·obtain⟨h1,o,h2,h3⟩:=mem_ready.1 hi
   have bJ:i<l.length:=by have:=(Array.getElem?_eq_some_iff.1 h2).1;simpa using this
   have gf:l[i]?=some o:=by simpa using h2
   rw[om (by omega)] at h1
   have dA:∀j,(listed.setIfInBounds i true).getD j false=if j=i then true else listed.getD j false:=fun j=>tG (by omega) false
   have rP:=pB (S:=fun j=>listed.getD j false) l [] (fun i k hk=>by simp at hk) (fun i o ho hi e he hb=>bB i o ho (by simpa using hi) e he hb)
   have og:∀(i':Nat) (o':Oper),l[i']?=some o'→(listed.setIfInBounds i true).getD i' false=true→∀e∈o'.after.toList,Region.binds .any e=true→(listed.setIfInBounds i true).getD e.on false=true:=fun i' o' eR fA e he hb=>by
    rw[dA] at fA⊢
    split
    ·rfl
    ·split at fA
     ·rename_i pD;subst pD
      rw[gf] at eR;cases eR
      exact h3 e (by simpa using he) hb
     ·exact bB i' o' eR fA e he hb
   have rQ:=pB (S:=fun j=>(listed.setIfInBounds i true).getD j false) l [] (fun i k hk=>by simp at hk) (fun i' o' eR jN e he hb=>og i' o' eR (by simpa using jN) e he hb)
   have j6:∀j,i∈(fy [] l).getD j []→listed.getD j false=false:=fun j hj=>by
    cases hb:listed.getD j false with
    |false=>rfl
    |true=>rw[rP j i hj hb] at h1;cases h1
   have aI:∀j,j≠i→j∈(fy [] l).getD i []→listed.getD j false=true:=fun j oh hj=>by
    have h':=rQ i j hj (by show(listed.setIfInBounds i true).getD i false=true;rw[dA];simp)
    have rR:(listed.setIfInBounds i true).getD j false=true:=h'
    rwa[dA,if_neg oh] at rR
   have ix:i<rs.length:=by omega
   have lV:rs[i]?=some rs[i]:=by simp[ix]
   generalize rs[i]=r at lV
   obtain⟨pz,Bk⟩:=F3 dx lV
   have eS:=run i o r gf lV
   have se:∀k∈r.T,∀f,cellAt (fun j=>decide (j<i)) k 0 rs f=cellAt (fun j=>listed.getD j false) k 0 rs f:=fun k hk f=>qM 0 rs f fun j r' u g1 g2 g3=>by
    rw[Nat.zero_add]
    by_cases gM:i=j
    ·subst gM;rw[h1];simp
    ·have:=pz k hk j r' u g1 gM g2 g3
     split at this
     ·rename_i fO;rw[aI j (fun e=>gM e.symm) this];simpa using fO
     ·rename_i fO;rw[j6 j this];simpa using fO
   have oe:=F1 dx gf
   have rS:cF I a ((c5 ((da 0 l rs).reverse.filter fun e=>decide (e.1<i))++Γ).only (o.looksAt l.toArray)):=fun t y e=>by
    obtain⟨g1,g2⟩:=Env.vi e
    have ht:t∈slotsOf l.toArray o:=by
     unfold slotsOf;rw[List.mem_append];exact .inr (by simpa using g2)
    rw[pC (q:=fun e=>listed.getD e.1 false) _ (fun e he ig=>?_)] at g1
    ·exact hs.env t y g1
    ·obtain⟨o',k1,k2⟩:=jh e he
     by_cases kW:e.1=i
     ·rw[kW,h1];simp
     ·have:=oe t ht e.1 o' k1 (fun h=>kW h.symm) (by rw[k2,ig])
      split at this
      ·rename_i fO;rw[aI e.1 kW this];simpa using fO
      ·rename_i fO;rw[j6 e.1 this];simpa using fO
   have rT:((List.range l.length).filter fun j=>!(listed.setIfInBounds i true).getD j false).length≤fuel:=by
    have:=filter_lt (l:=List.range l.length) (p:=fun j=>!listed.getD j false) (q:=fun j=>!(listed.setIfInBounds i true).getD j false) (i:=i) (by simpa using bJ) (by simp only[h1];rfl) (by simp only[dA];simp) (fun j hj=>by
     simp only[dA] at hj;split at hj
     ·cases hj
     ·exact hj)
    omega
   let HS:List (Act→Own):=dG (fun i=>listed.getD i false) 0 rs 0 (H0.map fun o _=>o)
   let F:Nat→Own:=fun k=>match HS[k]? with|some f=>f a|none=>Own.gone
   have Bl:dy r.T a F 0 (dG (fun j=>decide (j<i)) 0 rs 0 (H0.map fun o _=>o))=gy a HS:=xZ (by simp[gy,HS,sa]) fun j f x g1 g2=>by
    rw[iN] at g1
    have nu:(gy a HS)[j]?=some x:=g2
    simp only[gy,List.getElem?_map] at nu
    have g3:HS[j]?=((H0.map fun(o:Own) (_:Act)=>o)[j]?).map (cellAt (fun i=>listed.getD i false) (0+j) 0 rs):=iN 0 _ j
    cases h0:(H0.map fun(o:Own) (_:Act)=>o)[j]? with
    |none=>rw[h0] at g1;simp at g1
    |some f0=>
     rw[h0] at g1 g3
     simp only[Option.map_some,Option.some.injEq,Nat.zero_add] at g1 g3
     rw[g3] at nu
     simp only[Option.map_some,Option.some.injEq] at nu
     cases hT:r.T.contains j with
     |true=>
      simp only[cond_true]
      rw[←g1,←nu,se j (by simpa using hT)]
     |false=>
      simp only[cond_false,F,g3,←nu]
   have Bm:St ⟨c.W,I,c.n,c.F⟩ I (dy r.T a F 0 (dG (fun j=>decide (j<i)) 0 rs 0 (H0.map fun o _=>o))) ((c5 ((da 0 l rs).reverse.filter fun e=>decide (e.1<i))++Γ).only (o.looksAt l.toArray)) a w:=by
    rw[Bl]
    exact⟨hs.F6.step,hs.own,rS,hs.size,hs.defers⟩
   have jO:∀I' a' w',(∃v,a'.tmps=(a.put o.dst v).tmps)→St ⟨c.W,I,c.n,c.F⟩ I' (dy r.T a' F 0 (g7 (dG (fun j=>decide (j<i)) 0 rs 0 (H0.map fun o _=>o)) r.u)) (jB o.dst r.x ((c5 ((da 0 l rs).reverse.filter fun e=>decide (e.1<i))++Γ).only (o.looksAt l.toArray))) a' w'→
    wpAny P .any l.toArray Q fuel (listed.setIfInBounds i true) a' w':=fun I' a' w' ⟨v,hv⟩ h'=>by
    refine ih (listed.setIfInBounds i true) I' a' w' (by simpa using cr) rT og ?_
    have qN:∀t,o.dst≠some t→a'.tmps.getD t undef=a.tmps.getD t undef:=fun t ht=>by
     rw[hv]
     cases hd:o.dst with
     |none=>rfl
     |some d=>
      have bn:d≠t:=fun e=>ht (by rw[hd,e])
      simp[Act.put,bn]
    have ep:dy r.T a' F 0 (g7 (dG (fun j=>decide (j<i)) 0 rs 0 (H0.map fun o _=>o)) r.u)=gy a' (dG (fun j=>(listed.setIfInBounds i true).getD j false) 0 rs 0 (H0.map fun o _=>o)):=xZ (by cases r.u<;>simp[gy,sa,g7]) fun j f x g1 g2=>by
     simp only[gy,List.getElem?_map] at g2
     rw[iN] at g2
     cases h0:(H0.map fun(o:Own) (_:Act)=>o)[j]? with
     |none=>rw[h0] at g2;simp at g2
     |some f0=>
      rw[h0] at g2
      simp only[Option.map_some,Option.some.injEq,Nat.zero_add] at g2
      have Bn:∀a a',f0 a=f0 a':=by
       rw[List.getElem?_map] at h0
       cases hh:H0[j]? with
       |none=>rw[hh] at h0;simp at h0
       |some o0=>rw[hh] at h0;simp at h0;subst h0;intro _ _;rfl
      have ld:∀(pK:∀u,r.u=some u→u.k≠j),cellAt (fun j=>(listed.setIfInBounds i true).getD j false) j 0 rs f0=cellAt (fun j=>listed.getD j false) j 0 rs f0:=fun pK=>qM 0 rs f0 fun j' r' u g3 g4 g5=>by
       rw[Nat.zero_add,dA,if_neg]
       intro e;subst e
       rw[lV] at g3;cases g3
       exact pK u g4 g5
      cases hT:r.T.contains j with
      |true=>
       simp only[cond_true]
       rw[←g2]
       have sf:j∈r.T:=by simpa using hT
       cases hu:r.u with
       |none=>
        rw[hu] at g1
        simp only[g7] at g1
        rw[iN,h0] at g1
        simp only[Option.map_some,Option.some.injEq,Nat.zero_add] at g1
        rw[ld (fun u e=>by rw[hu] at e;cases e),←se j sf,g1]
       |some u=>
        rw[hu] at g1
        simp only[g7] at g1
        by_cases hk:u.k=j
        ·subst hk
         have fO:u.k<(dG (fun j=>decide (j<i)) 0 rs 0 (H0.map fun o _=>o)).length:=by
          rw[sa];exact(List.getElem?_eq_some_iff.1 h0).1
         rw[List.getElem?_set_self fO] at g1
         cases g1
         rw[Bd 0 rs f0 i r u lV hu rfl (by rw[Nat.zero_add,dA];simp) fun j' r' u' g3 g4 g5 g6=>?_]
         have:=pz u.k sf j' r' u' g3 (by omega) g4 g5
         rw[if_neg (by omega)] at this
         rw[Nat.zero_add,dA,if_neg (by omega)]
         exact j6 j' this
        ·rw[List.getElem?_set_ne hk,iN,h0] at g1
         simp only[Option.map_some,Option.some.injEq,Nat.zero_add] at g1
         rw[ld (fun u' e=>by rw[hu] at e;cases e;exact hk),←se j sf,g1]
      |false=>
       simp only[cond_false]
       rw[←g2]
       have pK:∀u,r.u=some u→u.k≠j:=fun u hu e=>by
        have:=Bk u hu
        rw[e] at this
        have:r.T.contains j=true:=by simpa using this
        rw[hT] at this;cases this
       rw[ld pK]
       have g3:HS[j]?=some (cellAt (fun i=>listed.getD i false) j 0 rs f0):=by
        have:=iN (S:=fun i=>listed.getD i false) (i:=0) (rs:=rs) 0 (H0.map fun(o:Own) (_:Act)=>o) j
        rw[h0,Nat.zero_add] at this;exact this
       simp only[F,g3]
       refine(Be 0 rs f0 (Bn a' a) fun j' r' u' g4 g5 g6=>ik j' r' u' g4 g5 a' a fun d hd=>qN d fun e=>?_)
       rw[Nat.zero_add] at g6
       by_cases gM:i=j'
       ·subst gM;have nv:listed.getD i false=true:=g6;rw[h1] at nv;cases nv
       ·have nv:listed.getD j' false=true:=g6
        rw[j6 j' (F4 dx gf e g4 g5 gM hd)] at nv;cases nv
    rw[ep] at h'
    have r4:en c.F c.I c.W I' w':=⟨Im.le_trans hs.step.le h'.step.le,fun b hb hf=>(h'.step.eB b hb hf).trans (hs.step.eB b hb hf),h'.step.cE,h'.step.below⟩
    refine⟨r4,h'.own,?_,h'.size,h'.defers⟩
    intro t y e
    by_cases ji:o.dst=some t
    ·have mB:(i,t,r.x)∈(da 0 l rs).reverse:=by
      rw[List.mem_reverse]
      have:=FZ ji (k:=0) gf lV
      rwa[Nat.zero_add] at this
     rw[vm (i:=i) (x:=r.x) _ hL mB (by simp only[dA];simp) (fun e he hp ig=>?_)] at e
     ·cases e
      exact h'.env t r.x (by rw[ji];simp[jB,Env.get])
     ·obtain⟨o',k1,k2⟩:=jh e he
      by_cases hle:e.1≤i
      ·exact hle
      ·have bn:i≠e.1:=by omega
       have:=oe t (by unfold slotsOf;rw[List.mem_append];exact .inl (by simp[ji])) e.1 o' k1 bn (by rw[k2,ig])
       rw[if_neg (by omega)] at this
       have Bo:¬e.1=i:=fun h=>bn h.symm
       rw[dA,if_neg Bo,j6 e.1 this] at hp;cases hp
    ·rw[pC (q:=fun e=>listed.getD e.1 false) _ (fun e he ig=>?_)] at e
     ·have:=hs.env t y e
      rw[qN t ji]
      exact y.up _ _ _ h'.step.le this
     ·obtain⟨o',k1,k2⟩:=jh e he
      have bn:e.1≠i:=fun h=>by
       rw[h,gf] at k1;cases k1
       exact ji (by rw[k2,ig])
      simp only[dA,if_neg bn]
   let Q':Exit→Act→World→Prop:=fun e a' w'=>match e with
    |.normal=>∃I',St ⟨c.W,I,c.n,c.F⟩ I' (dy r.T a' F 0 (g7 (dG (fun j=>decide (j<i)) 0 rs 0 (H0.map fun o _=>o)) r.u)) (jB o.dst r.x ((c5 ((da 0 l rs).reverse.filter fun e=>decide (e.1<i))++Γ).only (o.looksAt l.toArray))) a' w'
    |e=>Q e a' w'
   have hQ:∀e a w,e≠.normal→Q' e a w→Q e a w:=fun e a w hn h=>by
    cases e<;>first|exact absurd rfl hn|exact h
   have ga:=eS F (c.W,c.F) I I a w Q' Bm fun I' a' w' h'=>⟨I',h'⟩
   unfold wpOp
   simp only[h2]
   unfold wpList at ga
   by_cases hw:Region.wanted o (yielded l.toArray a.tmps)=true
   ·rw[if_pos hw] at ga⊢
    rcases ga with ga|⟨h5,h6⟩
    ·exact .inl (Oper.wp_mono (fun a' w' h=>h) (Oper.wp_mono (fun a' w' ⟨hv,I',h'⟩=>jO I' a' w' hv h') (F5 hQ ga)))
    ·exact .inr ⟨h5,let⟨a,w,h⟩:=h6;⟨a,w,hQ _ a w (by simp) h⟩⟩
   ·rw[if_neg hw] at ga⊢
    obtain⟨I',h'⟩:=ga
    exact jO I' _ w ⟨undef,rfl⟩ h'
def aV (P:Program) (c:Ctx) (ops:Array Oper) (Q:Exit→Act→World→Prop) (Γ:Env) (H:List (Act→Own)) (os:List Oper) (ms:Meta):Prop:=
 ∃rs,rs.map Rec.j8=ms∧sd P c.n ops Γ H os rs∧∀I' a' w',St c I' (gy a' (xX H rs)) (tN Γ os rs) a' w'→Q .normal a' w'
theorem aV.nil {ops:Array Oper} {Hf:List (Act→Own)} (k:∀I' a' w',St c I' (gy a' Hf) Γ a' w'→Q .normal a' w'):aV P c ops Q Γ Hf [] []:=⟨[],rfl,trivial,k⟩
theorem aV.cons {ops:Array Oper} {Hf:List (Act→Own)} {o:Oper} {os:List Oper} {x:AV} {T:List Nat} {u:Option lj} {ms:Meta} (hu:∀v,u=some v→v.fit) (h:vE P c.n ops Hf (g7 Hf u) T (Γ.only (o.looksAt ops)) o x) (k:aV P c ops Q (jB o.dst x Γ) (g7 Hf u) os ms):
 aV P c ops Q Γ Hf (o::os) ((T,u.map fun u=>(u.k,u.aS))::ms):=
 let⟨rs,h1,h2,h3⟩:=k;⟨⟨x,T,u⟩::rs,by simp[Rec.j8,h1],⟨h,hu,h2⟩,h3⟩
theorem St.eT {id:Nat} {l:List Oper} (ms:Meta) (hs:St c I H Γ a w) (hm:P.follows .mixedOrders=true) (dx:mH l ms=true) (hd:(l.all fun o=>match o.dst with|some d=>Nat.blt d c.n|none=>true)=true)
 (run:aV P c l.toArray Q Γ (H.map fun o _=>o) l ms):(Code.region id l.toArray true).wp P Q a w:=by
 obtain⟨rs,h0,run,k⟩:=run
 subst h0
 refine wp_region_any hm ?_
 obtain⟨hlen,ik,eS⟩:=sd.at (Γ0:=Γ) l rs 0 _ [] (by simpa[c5] using run) (fun e he=>by simp at he)
 have hf:∀i:Nat,(Array.replicate l.length false).getD i false=false:=fun i=>by
  rw[Array.getD_eq_getD_getElem?,Array.getElem?_replicate];split<;>rfl
 have:=NF (P:=P) (c:=c) (H0:=H) (Γ:=Γ) (Q:=Q) dx hlen hd ik (fun i o r ho hr=>by simpa using eS i o r ho hr) (fun I' a' w' h=>by
  rw[←Bh,←Bi] at h;exact k I' a' w' h) l.length (Array.replicate l.length false) I a {w with drawn:=w.drawn+1} (by simp)
  (by simpa using List.length_filter_le _ (List.range l.length)) (fun i o ho hi=>by rw[hf] at hi;cases hi) (by
    have he:(da 0 l rs).reverse.filter (fun e=>(Array.replicate l.length false).getD e.1 false)=[]:=by
     rw[List.filter_eq_nil_iff];intro e _;rw[hf];simp
    have hh:gy a (dG (fun i=>(Array.replicate l.length false).getD i false) 0 rs 0 (H.map fun o _=>o))=H:=by
     rw[Bf fun j _=>hf j];simp[gy,Function.comp_def]
    rw[he,hh]
    exact⟨⟨hs.step.le,hs.step.eB,hs.step.cE,hs.step.below.drew⟩,⟨fun o ho=>⟨o.fN I I w _ (Im.le_refl I) (fun _ _=>rfl) (hs.own.all o ho).1,(hs.own.all o ho).2⟩,hs.own.nodup⟩,hs.env,hs.size,hs.defers⟩)
 simpa using this
end
theorem F7 {a a':Act} {F:Nat→Own} {Hf:List (Act→Own)}:dy [] a F 0 Hf=dy [] a' F 0 Hf:=by
 apply List.ext_getElem?
 intro j;rw[r9,r9];rfl
theorem lW {k:Nat} {a a':Act} {F:Nat→Own} {Hf:List (Act→Own)} {f:Act→Own} {O:Own} (h:O=f a'):(dy [k] a F 0 Hf).set k O=dy [k] a' F 0 (Hf.set k f):=by
 apply List.ext_getElem?
 intro j
 rw[r9,List.getElem?_set,List.getElem?_set,r9]
 have hl:(dy [k] a F 0 Hf).length=Hf.length:=by
  have:∀(n:Nat) (L:List (Act→Own)),(dy [k] a F n L).length=L.length:=by
   intro n L;induction L generalizing n with
   |nil=>rfl
   |cons x L ih=>simp[dy,ih]
  exact this 0 Hf
 rw[hl]
 by_cases hk:k=j
 ·subst hk
  by_cases bJ:k<Hf.length
  ·simp[bJ,h]
  ·simp[bJ]
 ·rw[if_neg hk,if_neg hk]
  have hc:([k].contains (0+j))=false:=by simp;omega
  rw[hc];rfl
section
variable {P:Program} {c:Ctx} {I:Im} {H:List Own} {Γ:Env} {a:Act} {w:World} {Q:Exit→Act→World→Prop} {ops:Array Oper} {Hf:List (Act→Own)} {os:List Oper} {ms:Meta}
theorem St.pass {H':List Own} (hs:St c I H Γ a w) (h:H=H'):St c I H' Γ a w:=h▸hs
theorem aV.op {o:Oper} {d:Nat} {x:AV} (hg:o.guard=none) (ho:o.dst=some d) (hd:Nat.blt d c.n=true) (h:∀F a,Ok P (dy [] a F 0 Hf) (Γ.only (o.looksAt ops)) true o x)
 (k:aV P c ops Q ((d,x)::Γ) Hf os ms):aV P c ops Q Γ Hf (o::os) (([],none)::ms):=
 aV.cons (u:=none) (x:=x) (fun v e=>by cases e) (fun F W0 I0 I a w Q hs kk=>hs.op hg ho hd (h F a) fun I' a' w' bX=>kk I' a' w' (by rw[ho];exact bX.pass F7)) (by rw[ho];exact k)
theorem aV.xC {o:Oper} {d:Nat} {x:AV} {G:Bool} (hg:gJ ops (Γ.only (o.looksAt ops)) o G) (ho:o.dst=some d) (hd:Nat.blt d c.n=true) (h:∀F a,Ok P (dy [] a F 0 Hf) (Γ.only (o.looksAt ops)) G o x)
 (k:aV P c ops Q ((d,.cond G x)::Γ) Hf os ms):aV P c ops Q Γ Hf (o::os) (([],none)::ms):=
 aV.cons (u:=none) (x:=.cond G x) (fun v e=>by cases e) (fun F W0 I0 I a w Q hs kk=>hs.xC hg ho hd (h F a) fun I' a' w' bX=>kk I' a' w' (by rw[ho];exact bX.pass F7)) (by rw[ho];exact k)
theorem aV.NG {o:Oper} {d:Nat} {x:AV} (T:List Nat) (hc:∀F a a',dy T a F 0 Hf=dy T a' F 0 Hf) (hg:o.guard=none) (ho:o.dst=some d) (hd:Nat.blt d c.n=true) (h:∀F a,Ok P (dy T a F 0 Hf) (Γ.only (o.looksAt ops)) true o x)
 (k:aV P c ops Q ((d,x)::Γ) Hf os ms):aV P c ops Q Γ Hf (o::os) ((T,none)::ms):=
 aV.cons (u:=none) (x:=x) (fun v e=>by cases e) (fun F W0 I0 I a w Q hs kk=>hs.op hg ho hd (h F a) fun I' a' w' bX=>kk I' a' w' (by rw[ho];exact bX.pass (hc F a a'))) (by rw[ho];exact k)
theorem aV.gz {o:Oper} {x:AV} {O:Own} (k:Nat)
 (h:∀(F:Nat→Own) (W0:World×(Nat→Prop)) (I0 I:Im) (a:Act) (w:World) (Q:Exit→Act→World→Prop),St ⟨W0.1,I0,c.n,W0.2⟩ I (dy [k] a F 0 Hf) (Γ.only (o.looksAt ops)) a w→
   (∀I' a' w',St ⟨W0.1,I0,c.n,W0.2⟩ I' ((dy [k] a F 0 Hf).set k O) (jB o.dst x (Γ.only (o.looksAt ops))) a' w'→wpList P ops Q [] a' w')→wpList P ops Q [o] a w)
 (r:aV P c ops Q (jB o.dst x Γ) (Hf.set k fun _=>O) os ms):aV P c ops Q Γ Hf (o::os) (([k],some (k,[]))::ms):=
 aV.cons (u:=some ⟨k,[],fun _=>O⟩) (x:=x) (fun v e=>by cases e;intro _ _ _;rfl) (fun F W0 I0 I a w Q hs kk=>h F W0 I0 I a w Q hs fun I' a' w' bX=>kk I' a' w' (bX.pass (lW rfl))) r
theorem St.vF {x:Own} (k:Nat) (hs:St c I (H++[x]) Γ a w) (hk:H[k]?=some Own.gone):St c I (H.set k x) Γ a w:=by
 refine⟨hs.step,⟨fun o ho=>?_,?_⟩,hs.env,hs.size,hs.defers⟩
 ·rcases List.mem_or_eq_of_mem_set ho with ho|rfl
  ·exact hs.own.all o (List.mem_append_left _ ho)
  ·exact hs.own.all _ (by simp)
 ·have hn:=hs.own.nodup
  rw[List.filterMap_append,List.nodup_append] at hn
  refine pE hn.1 fun b hb=>.inr fun y hy e=>?_
  exact hn.2.2 b (List.mem_filterMap.2 ⟨y,hy,e⟩) b (List.mem_filterMap.2 ⟨x,by simp,hb⟩) rfl
theorem St.gN (hs:St c I H Γ a w):St c I (H++[Own.gone]) Γ a w:=
 ⟨hs.step,⟨fun y hy=>by
  rcases List.mem_append.1 hy with hy|hy
  ·exact hs.own.all y hy
  ·obtain rfl:=by simpa using hy
   exact⟨trivial,fun b e=>by cases e⟩,
  by rw[List.filterMap_append];simpa[Own.gone] using hs.own.nodup⟩,hs.env,hs.size,hs.defers⟩
theorem jQ {k:Nat} {a:Act} {F:Nat→Own} {f:Act→Own} (h:Hf[k]?=some f):(dy [k] a F 0 Hf)[k]?=some (f a):=by
 rw[r9,h];simp
variable {T T' E ty:TypeId} {p:String} {af:Array Edge} {ag:Bool} {n m d:Nat} {zv:Value} {l lx:List AV} {z y:Operand}
theorem x4 {a:Act} {b:Nat} (h:a.tmps.getD d undef=.pointer (some ⟨b,0,none⟩)):lU T l (a.tmps.getD d undef)=Own.box b T l:=by rw[h];rfl
theorem qO {k:Nat} {g:Value→Own} (h:∀v v',v=v'→g v=g v'):∀v,(some (⟨k,[d],fun a=>g (a.tmps.getD d undef)⟩:lj))=some v→v.fit:=fun v e=>by
 cases e;intro a a' hh
 exact h _ _ (hh d (by simp))
theorem aV.alloc (k:Nat) (hk:Hf[k]?=some fun _=>Own.gone) (hd:Nat.blt d c.n=true) (hT:Ty P T ag n m zv) (hz:∀I,bD I l zv.cells.toList)
 (r:aV P c ops Q ((d,AV.r8)::Γ) (Hf.set k fun a=>lU T l (a.tmps.getD d undef)) os ms):aV P c ops Q Γ Hf (⟨some d,.alloc T,ty,p,af,none⟩::os) (([k],some (k,[d]))::ms):=
 aV.cons (u:=some ⟨k,[d],fun a=>lU T l (a.tmps.getD d undef)⟩) (x:=AV.r8) (qO fun v v' e=>e▸rfl) (fun F W0 I0 I a w Q hs kk=>hs.alloc hd hT hz fun b I' a' w' bX=>by
  have hv:a'.tmps.getD d undef=.pointer (some ⟨b,0,none⟩):=bX.env d (.val (.pointer (some ⟨b,0,none⟩))) (by simp[Env.get])
  refine kk I' a' w' ?_
  have h1:=(bX.vF k (jQ hk)).pass (lW (f:=fun a=>lU T l (a.tmps.getD d undef)) (x4 hv).symm)
  exact⟨h1.step,h1.own,fun t x e=>by
   simp only[jB,Env.get] at e
   cases hb:Nat.beq d t with
   |true=>
    rw[hb] at e;simp only[cond_true] at e;cases e
    obtain rfl:d=t:=Nat.eq_of_beq_eq_true hb
    exact⟨b,hv⟩
   |false=>rw[hb] at e;exact h1.env t x (by simp only[Env.get,hb];exact e),h1.size,h1.defers⟩) r
theorem aV.pL (k:Nat) (hk:Hf[k]?=some fun a=>lU T' l (a.tmps.getD d undef)) (hT:Ty P T true n m zv) (hy:Env.get d (Γ.only ((⟨none,.store T (.tmp d) z,ty,p,af,none⟩:Oper).looksAt ops))=some AV.r8)
 (hz:At (Γ.only ((⟨none,.store T (.tmp d) z,ty,p,af,none⟩:Oper).looksAt ops)) true z (.agg lx)) (hn:lx.length=n) (hl:l.length=n)
 (r:aV P c ops Q Γ (Hf.set k fun a=>lU T' lx (a.tmps.getD d undef)) os ms):aV P c ops Q Γ Hf (⟨none,.store T (.tmp d) z,ty,p,af,none⟩::os) (([k],some (k,[d]))::ms):=
 aV.cons (u:=some ⟨k,[d],fun a=>lU T' lx (a.tmps.getD d undef)⟩) (x:=AV.any) (qO fun v v' e=>e▸rfl) (fun F W0 I0 I a w Q hs kk=>by
  obtain⟨b,hb⟩:=hs.env d _ hy
  obtain⟨cs,hv,vu⟩:=hz I a hs.env rfl
  have ec:=jQ (a:=a) (F:=F) hk
  rw[x4 hb] at ec
  obtain⟨w',hr,bX⟩:=hs.xG (q:=0) (lx:=lx) (v:=a.eval z) k hT ec (by rw[hv];exact vu) hn (by rw[hl];simp)
  have e:eo l 0 lx=lx:=by simp[eo];omega
  rw[e] at bX
  exact gZ rfl (tI hb rfl hr (kk I _ w' (bX.pass (lW (f:=fun a=>lU T' lx (a.tmps.getD d undef)) (x4 hb).symm))))) r
theorem St.nw (k:Nat) (hs:St c I H Γ a w) (hd:Env.get d Γ=some AV.r8) (hk:H[k]?=some (lU T l (a.tmps.getD d undef))):∃b,St c I (H.set k (Own.box b T l)) ((d,.val (.pointer (some ⟨b,0,none⟩)))::Γ) a w:=by
 obtain⟨b,hb⟩:∃b,a.tmps.getD d undef=.pointer (some ⟨b,0,none⟩):=hs.env d _ hd
 rw[x4 hb] at hk
 have e:H.set k (Own.box b T l)=H:=by
  apply List.ext_getElem?;intro j
  rw[List.getElem?_set]
  split
  ·rename_i e;subst e
   rw[hk];simp[(List.getElem?_eq_some_iff.1 hk).1]
  ·rfl
 refine⟨b,hs.step,by rw[e];exact hs.own,fun t x e=>?_,hs.size,hs.defers⟩
 simp only[Env.get] at e
 cases lh:Nat.beq d t with
 |true=>
  rw[lh] at e;simp only[cond_true] at e;cases e
  obtain rfl:d=t:=Nat.eq_of_beq_eq_true lh
  exact hb
 |false=>rw[lh] at e;exact hs.env t x (by simpa using e)
theorem aV.x5 {d':Nat} {sz:Nat} {l l2:List (List AV)} (k:Nat) (hk:Hf[k]?=some fun a=>Own.row (a.tmps.getD d' undef) E sz l) (hd:Nat.blt d c.n=true) (hU:P.underlying T=some (.slice E)) (hE:Ty P E ag sz m zv) (fB:zv.cells.size=sz)
 (hz:At (Γ.only ((⟨some d,.call ⟨.builtin .append,#[.tmp d',z],#[T,T]⟩,ty,p,af,none⟩:Oper).looksAt ops)) true z (.rows sz l2))
 (hb:(l.length+l2.length)*m≤140737488355328∧l.length+l2.length≤140737488355328)
 (r:aV P c ops Q ((d,.rows sz (l++l2))::Γ) (Hf.set k fun _=>Own.gone) os ms):aV P c ops Q Γ Hf (⟨some d,.call ⟨.builtin .append,#[.tmp d',z],#[T,T]⟩,ty,p,af,none⟩::os) (([k],some (k,[]))::ms):=
 aV.cons (u:=some ⟨k,[],fun _=>Own.gone⟩) (x:=.rows sz (l++l2)) (fun v e=>by cases e;intro _ _ _;rfl) (fun F W0 I0 I a w Q hs kk=>by
  have ec:=jQ (a:=a) (F:=F) hk
  obtain⟨v',w',hr,bX⟩:=hs.xJ (ty:=ty) k hU hE fB ec (hz I a hs.env rfl) hb.1 (by simp only[maxLen];omega)
  refine gZ rfl ?_
  unfold Oper.wp
  have e1:a.eval (.tmp d')=a.tmps.getD d' undef:=rfl
  simp only[execOp,resolve,invoke,builtin,Sem.run_bind,Sem.run_pure,Result.andThen_ok,List.map_toArray,List.map_cons,List.map_nil,e1,hr]
  have pM:=bX.kY bX.step (Im.le_refl _) bX.own hd (x:=.val v') rfl
  obtain⟨I',eU,hf⟩:=pM.qF k (by rw[List.getElem?_set_self (List.getElem?_eq_some_iff.1 ec).1])
  rw[List.set_set] at eU
  have ll:=eU.tK (t:=d) (by simp[Env.get]) hf
  refine kk I' _ w' ((ll.le fun t x e=>?_).pass (lW rfl))
  simp only[jB,Env.get] at e⊢
  cases lh:Nat.beq d t with
  |true=>rw[lh] at e;exact e
  |false=>rw[lh] at e;simpa using e) r
def AV.j9:AV:=⟨fun _ v=>v.oneCell'=true,fun _ _ _ _ h=>h⟩
theorem aV.Bp {v:Value} {sz:Nat} {l l2:List (List AV)} (k:Nat) (hk:Hf[k]?=some fun _=>Own.row v E sz l) (hd:Nat.blt d c.n=true) (hU:P.underlying T=some (.slice E)) (hE:Ty P E ag sz m zv) (fB:zv.cells.size=sz)
 (hy:At (Γ.only ((⟨some d,.call ⟨.builtin .append,#[y,z],#[T,T]⟩,ty,p,af,none⟩:Oper).looksAt ops)) true y (.val v)) (hz:At (Γ.only ((⟨some d,.call ⟨.builtin .append,#[y,z],#[T,T]⟩,ty,p,af,none⟩:Oper).looksAt ops)) true z (.rows sz l2))
 (hb:(l.length+l2.length)*m≤140737488355328∧l.length+l2.length≤140737488355328)
 (r:aV P c ops Q ((d,AV.j9)::Γ) (Hf.set k fun a=>Own.row (a.tmps.getD d undef) E sz (l++l2)) os ms):aV P c ops Q Γ Hf (⟨some d,.call ⟨.builtin .append,#[y,z],#[T,T]⟩,ty,p,af,none⟩::os) (([k],some (k,[d]))::ms):=
 aV.cons (u:=some ⟨k,[d],fun a=>Own.row (a.tmps.getD d undef) E sz (l++l2)⟩) (x:=AV.j9) (qO (g:=fun v=>Own.row v E sz (l++l2)) fun v v' e=>e▸rfl) (fun F W0 I0 I a w Q hs kk=>hs.append k hd hU hE fB hy hz (jQ hk) hb fun v' a' w' bX=>by
  have hv:a'.tmps.getD d undef=v':=bX.env d (.val v') (by simp[Env.get])
  have sg:=bX.own.all (Own.row v' E sz (l++l2)) (List.mem_of_getElem? (i:=k) (by rw[List.getElem?_set_self (List.getElem?_eq_some_iff.1 (jQ (a:=a) (F:=F) hk)).1]))
  have h1:=bX.pass (lW (a':=a') (f:=fun a=>Own.row (a.tmps.getD d undef) E sz (l++l2)) (by rw[hv]))
  exact kk I a' w' ⟨h1.step,h1.own,fun t x e=>by
   simp only[jB,Env.get] at e
   cases hb:Nat.beq d t with
   |true=>
    rw[hb] at e;simp only[cond_true] at e;cases e
    obtain rfl:d=t:=Nat.eq_of_beq_eq_true hb
    show(a'.tmps.getD d undef).oneCell'=true
    rw[hv]
    obtain⟨_,⟨_,rfl|⟨q,rfl,_⟩⟩|⟨b,cap,cur,rfl,_⟩⟩:=sg.1<;>rfl
   |false=>rw[hb] at e;exact h1.env t x (by simp only[Env.get,hb];exact e),h1.size,h1.defers⟩) r
theorem aV.x6 {d' b q:Nat} {l:List AV} (k:Nat) (hk:Hf[k]?=some fun _=>Own.box b T' l) (hT:Ty P T false 1 m zv) (hy:At (Γ.only ((⟨none,.store T y (.tmp d'),ty,p,af,none⟩:Oper).looksAt ops)) true y (.val (.pointer (some ⟨b,q,none⟩))))
 (hz:Env.get d' (Γ.only ((⟨none,.store T y (.tmp d'),ty,p,af,none⟩:Oper).looksAt ops))=some AV.j9) (hq:Nat.blt q l.length=true)
 (r:aV P c ops Q Γ (Hf.set k fun a=>Own.box b T' (l.set q (.val (a.tmps.getD d' undef)))) os ms):aV P c ops Q Γ Hf (⟨none,.store T y (.tmp d'),ty,p,af,none⟩::os) (([k],some (k,[d']))::ms):=
 aV.cons (u:=some ⟨k,[d'],fun a=>Own.box b T' (l.set q (.val (a.tmps.getD d' undef)))⟩) (x:=AV.any) (qO (g:=fun v=>Own.box b T' (l.set q (.val v))) fun v v' e=>e▸rfl) (fun F W0 I0 I a w Q hs kk=>by
  have hb:=hy I a hs.env rfl
  have h1:(a.tmps.getD d' undef).oneCell'=true:=hs.env d' _ hz
  have hc:=vq h1
  have Fi:q<l.length:=by simpa using hq
  obtain⟨w',hr,bX⟩:=hs.xG (q:=q) (lx:=[.val (a.tmps.getD d' undef)]) (v:=a.tmps.getD d' undef) k hT (jQ hk) (by rw[hc];exact⟨⟨rfl,h1⟩,trivial⟩) rfl (by simp;omega)
  rw[Fj Fi] at bX
  exact gZ rfl (tI hb rfl hr (kk I _ w' (bX.pass (lW (f:=fun a=>Own.box b T' (l.set q (.val (a.tmps.getD d' undef)))) rfl))))) r
def AV.bare:AV:=⟨fun _ v=>rM v,fun _ _ _ _ h=>h⟩
theorem qP {H:List Own} {g:Bool} {d:Option Tmp} {gd:Option (Nat×Bool)} {sz:Nat} (hT:P.underlying T=some (.slice E)) (hE:Ty P E ag sz m zv):Ok P H Γ g ⟨d,.buildSlice T 0 #[],ty,p,af,gd⟩ AV.bare:=
 fun base I a w K Q he hm hw hg k=>by
  have gL:(sizeOf E).run P w=.ok sz w:=hE.size
  have hr:(Instr.buildSlice T 0 ((#[]:Array (Nat×Operand)).map fun(i,x)=>(i,a.eval x))).run P w=.ok (.slice (some ⟨w.heap.size,0,none⟩) 0 0) (w.alloc (.cells #[] E)):=by
   simp only[Instr.buildSlice,Sem.run_bind,run_underlying hT,Result.andThen_ok,gL]
   have e0:Array.range 0=#[]:=rfl
   simp[Instr.fill,xM,e0]
  unfold Oper.wp
  simp only[execOp,Sem.run_bind,hr,Result.andThen_ok,Sem.run_pure,Oper.upon_value]
  exact k _ I _ (.inr ⟨⟨w.heap.size,0,none⟩,rfl,rfl⟩) (Step.alloc hm (.cells #[] E))
theorem x8 {H:List Own} {g:Bool} {d:Option Tmp} {gd:Option (Nat×Bool)} {sz:Nat} {l2:List (List AV)} (hU:P.underlying T=some (.slice E)) (hE:Ty P E ag sz m zv) (fB:zv.cells.size=sz) (hy:At Γ g y AV.bare) (hz:At Γ g z (.rows sz l2)) (hb:g=true→l2.length*m≤140737488355328∧l2.length≤140737488355328):
 Ok P H Γ g ⟨d,.call ⟨.builtin .append,#[y,z],#[T,T]⟩,ty,p,af,gd⟩ (.rows sz l2):=
 fun base I a w K Q he hm hw hg k=>by
  have pH:rM (a.eval y):=hy I a he hg
  have NH:St ⟨w,I,0,jL⟩ I [] [] {tmps:=#[],defers:=[]} w:=⟨en.refl hm,bQ.nil _ _ _,fun t x e=>by simp[Env.get] at e,rfl,rfl⟩
  have gL:=NH.xH (sz:=sz) E pH
  obtain⟨v',w',hr,eU⟩:=gL.xJ (ty:=ty) 0 hU hE fB rfl (hz I a he hg) (by simpa using(hb hg).1) (by have:=(hb hg).2;simp only[maxLen];simp;omega)
  obtain⟨I',ll,hv⟩:=eU.qF 0 rfl
  unfold Oper.wp
  simp only[execOp,resolve,invoke,builtin,Sem.run_bind,Sem.run_pure,Result.andThen_ok,List.map_toArray,List.map_cons,List.map_nil,hr]
  exact k v' I' w' hv ll.step.all
theorem aV.vG {sz:Nat} {l2:List (List AV)} (k:Nat) (hk:Hf[k]?=some fun _=>Own.gone) (hd:Nat.blt d c.n=true) (hU:P.underlying T=some (.slice E)) (hE:Ty P E ag sz m zv) (fB:zv.cells.size=sz)
 (hy:At (Γ.only ((⟨some d,.call ⟨.builtin .append,#[y,z],#[T,T]⟩,ty,p,af,none⟩:Oper).looksAt ops)) true y AV.bare) (hz:At (Γ.only ((⟨some d,.call ⟨.builtin .append,#[y,z],#[T,T]⟩,ty,p,af,none⟩:Oper).looksAt ops)) true z (.rows sz l2))
 (hb:l2.length*m≤140737488355328∧l2.length≤140737488355328)
 (r:aV P c ops Q ((d,AV.j9)::Γ) (Hf.set k fun a=>Own.row (a.tmps.getD d undef) E sz l2) os ms):aV P c ops Q Γ Hf (⟨some d,.call ⟨.builtin .append,#[y,z],#[T,T]⟩,ty,p,af,none⟩::os) (([k],some (k,[d]))::ms):=
 aV.cons (u:=some ⟨k,[d],fun a=>Own.row (a.tmps.getD d undef) E sz l2⟩) (x:=AV.j9) (qO (g:=fun v=>Own.row v E sz l2) fun v v' e=>e▸rfl) (fun F W0 I0 I a w Q hs kk=>by
  have pH:rM (a.eval y):=hy I a hs.env rfl
  have hlen:=List.getElem?_eq_some_iff.1 (jQ (a:=a) (F:=F) hk)
  have gL:=(hs.xH (sz:=sz) E pH).vF k (jQ (a:=a) (F:=F) hk)
  have sh:((dy [k] a F 0 Hf).set k (Own.row (a.eval y) E sz []))[k]?=some (Own.row (a.eval y) E sz []):=by rw[List.getElem?_set_self hlen.1]
  obtain⟨v',w',hr,bX⟩:=gL.xJ (ty:=ty) k hU hE fB sh (hz I a hs.env rfl) (by simpa using hb.1) (by simp only[maxLen];simp;omega)
  rw[List.set_set,List.nil_append] at bX
  refine gZ rfl ?_
  unfold Oper.wp
  simp only[execOp,resolve,invoke,builtin,Sem.run_bind,Sem.run_pure,Result.andThen_ok,List.map_toArray,List.map_cons,List.map_nil,hr]
  have sg:=bX.own.all (Own.row v' E sz l2) (List.mem_of_getElem? (i:=k) (by rw[List.getElem?_set_self hlen.1]))
  have h1:v'.oneCell'=true:=by
   obtain⟨_,⟨_,rfl|⟨q,rfl,_⟩⟩|⟨b,cap,cur,rfl,_⟩⟩:=sg.1<;>rfl
  have pM:=bX.kY (d:=d) (v:=v') (x:=AV.j9) bX.step (Im.le_refl _) bX.own hd h1
  refine kk I _ w' (pM.pass (lW (a':=a.put (some d) v') (f:=fun a=>Own.row (a.tmps.getD d undef) E sz l2) ?_))
  have:(a.put (some d) v').tmps.getD d undef=v':=by
   have gK:d<c.n:=by simpa using hd
   have cr:=hs.size
   simp[Act.put,cr,gK]
  rw[this]) r
end
end Go.Proofs.YtoeioeimmfpefaaGreat
