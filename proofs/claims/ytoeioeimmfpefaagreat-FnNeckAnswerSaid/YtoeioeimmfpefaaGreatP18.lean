/- Part 18: rules of the proofs, contracts of functions, plain facts. -/
import Derived.Test.YtoeioeimmfpefaaGreatP17
set_option linter.unusedVariables false
set_option linter.unusedSimpArgs false
set_option maxRecDepth 100000
set_option maxHeartbeats 4000000
namespace Go.Proofs.YtoeioeimmfpefaaGreat
open Go Go.RowKit
attribute [local irreducible] wpList Code.wp Ok
def gl:List ar→ar→List ar
 |[],d=>[d]
 |e::r,d=>if e.key=d.key then(if cY e.aA d.aA then d else e)::r else if d.key<e.key then d::e::r else e::gl r d
def iE (a b:List ar):List ar:=b.foldl gl a
def mO (key:Int) (d:ar):Bool:=d.key==key
def bY (l:List ar) (key:Int):ct:=match l.find? (mO key) with
 |some d=>d.aA
 |none=>⟨0,0⟩
theorem Hs {a b:ct} (h:cY a b=false) (h':cY b a=false):a=b:=by
 obtain⟨t,s⟩:=a
 obtain⟨t',s'⟩:=b
 simp[cY] at h h'
 simp
 omega
theorem PW {a b:ct} (h:cY a b=true):cY b a=false:=by
 obtain⟨t,s⟩:=a
 obtain⟨t',s'⟩:=b
 simp[cY] at h⊢
 omega
theorem Ht (e d:ar) (h:e.key=d.key):(if cY d.aA e.aA then e else d)=(if cY e.aA d.aA then d else e):=by
 cases h1:cY d.aA e.aA
 ·cases h2:cY e.aA d.aA
  ·have:=Hs h1 h2
   obtain⟨k,s⟩:=e
   obtain⟨k',s'⟩:=d
   simp at this h⊢;exact⟨h.symm,this⟩
  ·simp
 ·rw[PW h1];simp
theorem Hu:∀{l:List ar} {last:Int} {d:ar},db last l=true→aQ d.key (last+1) 5=true→c6 d.aA=true→db last (gl l d)=true
 |[],last,d,_,h,hs=>by simp[gl,db,h,hs]
 |e::r,last,d,hl,h,hs=>by
  simp only[db,Bool.and_eq_true] at hl
  obtain⟨⟨h1,h2⟩,h3⟩:=hl
  unfold gl
  split
  ·rename_i hk
   split
   ·simp only[db,Bool.and_eq_true]
    exact⟨⟨h,hs⟩,hk▸h3⟩
   ·simp only[db,Bool.and_eq_true]
    exact⟨⟨h1,h2⟩,h3⟩
  ·rename_i hk
   split
   ·rename_i bJ
    simp only[db,Bool.and_eq_true]
    refine⟨⟨h,hs⟩,⟨?_,h2⟩,h3⟩
    simp[aQ] at h1⊢;omega
   ·rename_i bJ
    simp only[db,Bool.and_eq_true]
    refine⟨⟨h1,h2⟩,Hu h3 ?_ hs⟩
    simp[aQ] at h⊢;omega
def jq (d:ar):Bool:=cU d.key&&c6 d.aA
theorem PX (d:ar):bT [d]=jq d:=by simp[bT,db,jq,cU]
theorem wk {l:List ar} {d:ar} (h:bT l=true) (hd:jq d=true):bT (gl l d)=true:=by
 simp only[jq,Bool.and_eq_true] at hd
 exact Hu h (by simpa[cU] using hd.1) hd.2
theorem Cg:∀{l:List ar} {last:Int},db last l=true→∀d∈l,last<d.key∧d.key≤5∧c6 d.aA=true
 |[],_,_,d,hd=>by simp at hd
 |e::r,last,h,d,hd=>by
  simp only[db,Bool.and_eq_true,aQ,decide_eq_true_eq] at h
  rcases List.mem_cons.1 hd with rfl|hd
  ·exact⟨by omega,h.1.1.2,h.1.2⟩
  ·have:=Cg h.2 d hd
   exact⟨by omega,this.2⟩
theorem hO {α:Type} [Inhabited α] {l:List α} {x:α} (h:x∈l):∃k,k<l.length∧ab l k=x:=by
 obtain⟨k,hk,rfl⟩:=List.getElem_of_mem h
 exact⟨k,hk,by simp[ab,hk]⟩
theorem nG {l:List ar} (h:bT l=true) {d:ar} (hd:d∈l):jq d=true:=by
 have:=Cg h d hd
 simp[jq,cU,aQ,this.2.2];omega
theorem uc {a b:List ar} (ha:bT a=true) (hb:∀d∈b,jq d=true):bT (iE a b)=true:=by
 unfold iE
 induction b generalizing a with
 |nil=>exact ha
 |cons d r ih=>exact ih (wk ha (hb d (by simp))) (fun e he=>hb e (by simp[he]))
theorem Hv {a b:List ar} {k:Nat} (h:k<b.length):iE a (b.take (k+1))=gl (iE a (b.take k)) (ab b k):=by
 unfold iE;rw[dL h,List.foldl_append];rfl
theorem Hw {a b:List ar} (ha:bT a=true) (hb:bT b=true) (k:Nat):bT (iE a (b.take k))=true:=
 uc ha fun d hd=>nG hb (List.mem_of_mem_take hd)
theorem Hx:∀{l:List ar} {last:Int},db last l=true→∀{i j:Nat},i<j→j<l.length→(ab l i).key<(ab l j).key
 |[],_,_,i,j,_,hj=>by simp at hj
 |e::r,last,h,0,j+1,_,hj=>by
  simp only[db,Bool.and_eq_true] at h
  have A9:j<r.length:=by simpa using hj
  exact(Cg h.2 _ (bx A9)).1
 |e::r,last,h,i+1,j+1,gM,hj=>by
  simp only[db,Bool.and_eq_true] at h
  exact Hx h.2 (i:=i) (j:=j) (by omega) (by simpa using hj)
theorem Hy:∀(l:List ar) (last:Int),db last l=true→last≤5→(l.length:Int)≤5-last
 |[],last,_,h=>by simp;omega
 |d::r,last,h,hl=>by
  simp only[db,Bool.and_eq_true,aQ,decide_eq_true_eq] at h
  have:=Hy r d.key h.2 (by omega)
  simp;omega
theorem gm {l:List ar} (h:bT l=true):l.length≤6:=by
 have:=Hy l (-1) h (by omega);omega
theorem wm {l:List ar} (h:bT l=true) {i j:Nat} (gM:i<j) (hj:j<l.length):(ab l i).key<(ab l j).key:=Hx h gM hj
structure jd (l:List ar) (d:ar) (k:Nat) (done:Bool) (out:List ar):Prop where
 hk:k≤l.length
 eq:gl l d=if done then out++l.drop k else out++gl (l.drop k) d
 late:done=true→∀i,k≤i→i<l.length→d.key<(ab l i).key
 len:out.length≤k+done.toNat
theorem jd.zero (l:List ar) (d:ar):jd l d 0 false []:=⟨Nat.zero_le _,by simp,(fun h=>by cases h),by simp⟩
section
variable {l:List ar} {d:ar} {k:Nat} {out:List ar} {done:Bool}
theorem jd.same (hp:jd l d k done out) (hl:bT l=true) (h:k<l.length) (he:(ab l k).key=d.key):done=false∧jd l d (k+1) true (out++[if cY (ab l k).aA d.aA then d else ab l k]):=by
 have hd:done=false:=by
  cases done
  ·rfl
  ·have:=hp.late rfl k (Nat.le_refl _) h;omega
 subst hd
 refine⟨rfl,h,?_,fun _ i hi jm=>?_,by have:=hp.len;simp at this⊢;omega⟩
 ·have:=hp.eq
  rw[jw h] at this
  simp only[gl,if_pos he] at this
  rw[this];simp
 ·rw[←he];exact wm hl (by omega) jm
theorem jd.before (hp:jd l d k false out) (hl:bT l=true) (h:k<l.length) (he:d.key<(ab l k).key):jd l d (k+1) true ((out++[d])++[ab l k]):=by
 refine⟨h,?_,fun _ i hi jm=>?_,by have:=hp.len;simp at this⊢;omega⟩
 ·have:=hp.eq
  rw[jw h] at this
  simp only[gl,if_neg (show¬(ab l k).key=d.key by omega),if_pos he] at this
  rw[this];simp
 ·have:=wm hl (i:=k) (j:=i) (by omega) jm
  omega
theorem jd.step (hp:jd l d k done out) (h:k<l.length) (he:(ab l k).key≠d.key) (hn:done=false→(ab l k).key≤d.key):jd l d (k+1) done (out++[ab l k]):=by
 refine⟨h,?_,fun hd i hi jm=>hp.late hd i (by omega) jm,by have:=hp.len;simp;omega⟩
 have:=hp.eq
 cases done
 ·rw[jw h] at this
  have:=hn rfl
  simp_all only[gl]
  simp
  omega
 ·simp only[if_true] at this⊢
  rw[this,jw h];simp
theorem jd.pZ (hp:jd l d k true out) (h:l.length≤k):out=gl l d:=by
 have:=hp.eq
 rw[List.drop_eq_nil_of_le h] at this;simpa using this.symm
theorem jd.p4 (hp:jd l d k false out) (h:l.length≤k):out++[d]=gl l d:=by
 have:=hp.eq
 rw[List.drop_eq_nil_of_le h] at this;simpa[gl] using this.symm
end
theorem Hz {l:List ar} {key:Int} {k:Nat} (hk:k<l.length) (h:∀i,i<k→mO key (ab l i)=false) (hp:mO key (ab l k)=true):bY l key=(ab l k).aA:=by
 have:l.find? (mO key)=some (ab l k):=by
  rw[List.find?_eq_some_iff_getElem]
  refine⟨hp,k,hk,by simp[ab,hk],fun j hj=>?_⟩
  have jy:j<l.length:=by omega
  have:=h j hj
  simpa[ab,jy] using this
 unfold bY;rw[this]
theorem HA {l:List ar} {key:Int} {k:Nat} (hk:l.length≤k) (h:∀i,i<k→mO key (ab l i)=false):bY l key=⟨0,0⟩:=by
 have:l.find? (mO key)=none:=by
  rw[List.find?_eq_none]
  intro x hx
  obtain⟨i,hi,rfl⟩:=hO hx
  rw[h i (by omega)];simp
 unfold bY;rw[this]
def l7 (a b:Int):Bool:=decide (a<b)
def jr (l:List Int):Bool:=cO l.length (ee cU l7 l)
def gQ (c:Call):Bool:=jr c.keys&&((c.kind==1&&((c.keys.length:Int)==1))||(c.kind==2&&aQ c.keys.length 1 3))
def q5:aK:=⟨0,⟨0,0⟩,0,0,0,[]⟩
def oG (v u:aK):Bool:=decide (v=u)
def l8 (a:Answer) (s:ct):Bool:=!a.yes||cY a.bG.aA s
def p5 (key:Int) (a:Answer):Bool:=a.key==key
def cz (c:Call) (key:Int):Int:=dm (p5 key) c.ax
def q6 (key:Int) (n:Int):Bool:=n==key
def fQ (l:List Int) (key:Int):Bool:=hasB (q6 key) l
def dE (a:Answer):Bool:=if a.yes then et a.bG&&(a.bG.key==a.key) else oG a.bG q5
def fm (a b:Answer):Bool:=decide (a.key<b.key)
def mP (c:Call) (i:Nat):Bool:=ee (fun a=>fQ c.keys a.key) fm c.ax i&&dE (ab c.ax i)
def nH (c:Call) (i:Nat):Bool:=decide (0≤cz c (ab c.aM i).key)&&l8 (ab c.ax (cz c (ab c.aM i).key).toNat) (ab c.aM i).aA
def mQ (c:Call):Bool:=(c.ax.length:Int)==c.keys.length
def lq (c:Call):Bool:=cO c.ax.length (mP c)
def mR (c:Call):Bool:=lq c&&cO c.aM.length (nH c)&&(((c.aM.length:Int)==0)||mQ c)
def ka (c:Call) (time:Int):Bool:=eC c.aC&&aQ c.num 1 99&&gQ c&&aQ c.val 0 9999&&bT c.ctx&&bT c.aM&&aQ c.bm 1 time&&jz c.aA&&mR c
def ud (c:Call):Bool:=!((c.kind==1&&decide (0<(c.ax.length:Int)+c.aM.length))||(!(c.kind==1)&&((c.val !=0)||!dR c.aA)))
def l9 (c:Call) (time:Int):Bool:=if c.end_=0 then dR c.aA else !(c.over||!aQ c.end_ (c.bm+1) time||decide (0<(c.aM.length:Int)))&&((c.kind==1&&!dR c.aA)||(!(c.kind==1)&&mQ c))
def eL (c:Call) (time:Int):Bool:=ka c time&&ud c&&l9 c time
def q7 (l:List Int) (k:Nat):Int:=if k=0 then-1 else ab l (k-1)
theorem PY (l:List Int) (k:Nat):q7 l (k+1)=ab l k:=by simp[q7]
theorem HB {n:Int}:cU n=true↔0≤n∧n≤5:=by simp[cU,aQ]
theorem HC {l:List Int} {k:Nat} (h:∀i,i<k→ee cU l7 l i=true):-1≤q7 l k∧q7 l k≤5:=by
 unfold q7
 split
 ·omega
 ·rename_i hk
  have:=h (k-1) (by omega)
  unfold ee at this
  rw[Bool.and_eq_true,HB] at this
  omega
theorem HD {l:List Int} {k:Nat} (h:∀i,i<k→ee cU l7 l i=true):aQ (ab l k) (q7 l k+1) 5=ee cU l7 l k:=by
 have:=HC h
 unfold ee q7 at*
 by_cases hk:k=0
 ·subst hk;simp[cU,aQ]
 ·simp only[hk,if_false] at this⊢
  rw[Bool.eq_iff_iff]
  simp[cU,aQ,l7];omega
theorem HE (l:List Int) (k:Nat):(!cU (ab l k)||(decide (0<(k:Int))&&decide (ab l k≤ab l ((k:Int)-1).toNat)))=!ee cU l7 l k:=by
 rw[←qK]
 have e:decide (ab l k≤ab l ((k:Int)-1).toNat)=!l7 (ab l ((k:Int)-1).toNat) (ab l k):=by rw[Bool.eq_iff_iff];simp[l7]
 rw[e]
theorem Ch (c:Call) (k:Nat):(!fQ c.keys (ab c.ax k).key||(decide (0<(k:Int))&&decide ((ab c.ax k).key≤(ab c.ax ((k:Int)-1).toNat).key)))=!ee (fun a=>fQ c.keys a.key) fm c.ax k:=by
 rw[←qK]
 have e:decide ((ab c.ax k).key≤(ab c.ax ((k:Int)-1).toNat).key)=!fm (ab c.ax ((k:Int)-1).toNat) (ab c.ax k):=by rw[Bool.eq_iff_iff];simp[fm]
 rw[e]
theorem HF (a:Answer):((a.yes&&(!et a.bG||(a.bG.key !=a.key)))||(!a.yes&&!oG a.bG q5))=!dE a:=by
 unfold dE
 cases a.yes<;>simp[bne]
theorem HG (c:Call) (k:Nat):(decide (cz c (ab c.aM k).key<0)||!l8 (ab c.ax (cz c (ab c.aM k).key).toNat) (ab c.aM k).aA)=!nH c k:=by
 unfold nH
 have e:decide (cz c (ab c.aM k).key<0)=!decide (0≤cz c (ab c.aM k).key):=by rw[Bool.eq_iff_iff];simp
 rw[e];simp
theorem HH (c:Call) (time:Int):(!eC c.aC||!aQ c.num 1 99||!gQ c||!aQ c.val 0 9999||!bT c.ctx||!bT c.aM||!aQ c.bm 1 time||!jz c.aA||!mR c)=!ka c time:=by simp[ka]
def sH (a:Answer):Bool:=if a.yes then et a.bG&&(a.bG.key==a.key) else cU a.key&&oG a.bG q5
def q8 (c:Call) (i:Nat):Bool:=sH (ab c.ax i)&&ee (fun a=>fQ c.keys a.key) fm c.ax i
def q9 (c:Call) (i:Nat):Bool:=decide (0≤cz c (ab c.aM i).key)&&cY (ab c.ax (cz c (ab c.aM i).key).toNat).bG.aA (ab c.aM i).aA
theorem Ci {α:Type} [Inhabited α] {p:α→Bool} {l:List α} (h:hasB p l=true):∃x∈l,p x=true:=by
 simp only[hasB,decide_eq_true_eq] at h
 obtain⟨k,hk,hp⟩:=B7 h
 exact⟨_,bx hk,hp⟩
theorem yy {α:Type} [Inhabited α] {p:α→Bool} {l:List α} {x:α} (h:x∈l) (hp:p x=true):hasB p l=true:=by
 simp only[hasB,decide_eq_true_eq]
 rcases Int.lt_or_le (dm p l) 0 with hn|hn
 ·obtain⟨k,hk,rfl⟩:=hO h
  rw[yw hn k hk] at hp;cases hp
 ·exact hn
theorem wo {l:List Int} {n:Int}:fQ l n=true↔n∈l:=by
 constructor
 ·intro h
  obtain⟨x,hx,he⟩:=Ci h
  simp[q6] at he;exact he▸hx
 ·exact fun h=>yy h (by simp[q6])
theorem ue {l:List Int} (h:jr l=true) {n:Int} (hn:n∈l):cU n=true:=by
 obtain⟨k,hk,rfl⟩:=hO hn
 have:=(iy.1 h) k hk
 unfold ee at this
 rw[Bool.and_eq_true] at this
 exact this.1
theorem PZ {c:Call} (h:jr c.keys=true) (i:Nat):q8 c i=mP c i:=by
 unfold q8 mP
 cases h1:ee (fun a=>fQ c.keys a.key) fm c.ax i
 ·simp
 ·have h2:fQ c.keys (ab c.ax i).key=true:=by unfold ee at h1;rw[Bool.and_eq_true] at h1;exact h1.1
  have:=ue h (wo.1 h2)
  unfold sH dE
  cases(ab c.ax i).yes<;>simp[this]
theorem Cj {c:Call} (h:lq c=true) {i:Nat} (hi:i<c.ax.length):dE (ab c.ax i)=true∧fQ c.keys (ab c.ax i).key=true:=by
 have:=(iy.1 h) i hi
 unfold mP ee at this
 simp only[Bool.and_eq_true] at this
 exact⟨this.2,this.1.1⟩
theorem ra {c:Call} {key:Int} (h:0≤cz c key):(cz c key).toNat<c.ax.length:=by
 have:=PB (p5 key) c.ax
 unfold cz at*;omega
theorem rb {s:ct} (h:c6 s=true):1≤s.time:=by simp[c6,aQ] at h;omega
def fW:ct:=⟨0,0⟩
theorem HI {s:ct} (h:1≤s.time):cY fW s=true:=by
 obtain⟨t,u⟩:=s
 have h:(1:Int)≤t:=h
 have e:decide ((0:Int)<t)=true:=decide_eq_true (by omega)
 show(decide ((0:Int)<t)||_)=true
 rw[e];rfl
theorem P0 {s:ct} (h:1≤s.time):cY s fW=false:=by
 obtain⟨t,u⟩:=s
 have h:(1:Int)≤t:=h
 show(decide (t<(0:Int))||((t==(0:Int))&&decide (u<(0:Int))))=false
 have e:decide (t<(0:Int))=false:=decide_eq_false (by omega)
 have e2:(t==(0:Int))=false:=by simp;omega
 rw[e,e2];rfl
theorem HJ {a:Answer} {s:ct} (h:dE a=true) (hs:c6 s=true):l8 a s=cY a.bG.aA s:=by
 unfold dE at h
 unfold l8
 cases hy:a.yes
 ·rw[hy] at h
  simp[oG] at h
  have:=rb hs
  rw[h,show cY q5.aA s=true from HI this];rfl
 ·simp
theorem P1 {c:Call} (h:lq c=true) (hd:bT c.aM=true) {i:Nat} (hi:i<c.aM.length):q9 c i=nH c i:=by
 unfold q9 nH
 by_cases hg:0≤cz c (ab c.aM i).key
 ·have h2:=nG hd (bx hi)
  simp only[jq,Bool.and_eq_true] at h2
  rw[HJ (Cj h (ra hg)).1 h2.2]
 ·simp[hg]
theorem yz {f:Answer→Int}:∀{ks:List Int} {l:List Answer},ks.Pairwise (·<·)→(l.map f).Pairwise (·<·)→(∀a∈l,f a∈ks)→l.length≤ks.length
 |[],[],_,_,_=>Nat.le_refl _
 |[],a::l,_,_,h=>by have:=h a (by simp);simp at this
 |y::ks,[],_,_,_=>by simp
 |y::ks,a::l,hk,hl,h=>by
  rw[List.pairwise_cons] at hk
  rw[List.map_cons,List.pairwise_cons] at hl
  by_cases HK:f a=y
  ·have:l.length≤ks.length:=yz hk.2 hl.2 fun b hb=>by
    have h1:=h b (by simp[hb])
    have h2:=hl.1 (f b) (List.mem_map.2 ⟨b,hb,rfl⟩)
    rcases List.mem_cons.1 h1 with h3|h3
    ·omega
    ·exact h3
   simp;omega
  ·have Gz:y<f a:=by
    rcases List.mem_cons.1 (h a (by simp)) with h3|h3
    ·exact absurd h3 HK
    ·exact hk.1 _ h3
   have:(a::l).length≤ks.length:=yz hk.2 (by rw[List.map_cons,List.pairwise_cons];exact hl) fun b hb=>by
    have h1:=h b hb
    rcases List.mem_cons.1 h1 with h3|h3
    ·rcases List.mem_cons.1 hb with rfl|hb
     ·exact absurd h3 HK
     ·have h2:=hl.1 (f b) (List.mem_map.2 ⟨b,hb,rfl⟩);omega
    ·exact h3
   simp at this⊢;omega
theorem HL {α:Type} [Inhabited α] {f:α→Int} {l:List α} (h:∀i,0<i→i<l.length→f (ab l (i-1))<f (ab l i)):(l.map f).Pairwise (·<·):=by
 rw[List.pairwise_iff_getElem]
 intro i j hi hj gM
 simp only[List.length_map] at hi hj
 simp only[List.getElem_map]
 have e:∀k (hk:k<l.length),l[k]=ab l k:=fun k hk=>by simp[ab,hk]
 rw[e i hi,e j hj]
 obtain⟨n,rfl⟩:∃n,j=i+1+n:=⟨j-(i+1),by omega⟩
 clear gM
 induction n with
 |zero=>have:=h (i+1) (by omega) hj;simpa using this
 |succ n ih=>
  have h1:=ih (by omega)
  have h2:=h (i+1+(n+1)) (by omega) hj
  rw[show i+1+(n+1)-1=i+1+n from by omega] at h2
  omega
theorem HM {l:List Int} (h:jr l=true):l.Pairwise (·<·):=by
 have:=HL (f:=fun n:Int=>n) (l:=l) fun i h0 hi=>by
  have:=(iy.1 h) i hi
  unfold ee at this
  simp[l7] at this
  have h1:=this.2
  omega
 simpa using this
theorem Ck {c:Call} (hk:jr c.keys=true) (h:lq c=true):c.ax.length≤c.keys.length:=
 yz (f:=Answer.key) (HM hk) (HL fun i h0 hi=>by
  have:=(iy.1 h) i hi
  unfold mP ee at this
  simp[fm] at this
  have h1:=this.1.2
  omega) fun a ha=>by
  obtain⟨k,ec,rfl⟩:=hO ha
  exact wo.1 (Cj h ec).2
def sI (c:Call):Bool:=!(decide ((c.keys.length:Int)<1)||decide (3<(c.keys.length:Int))||((c.kind==1)&&((c.keys.length:Int) !=1)))&&jr c.keys
theorem HN (c:Call):(aQ c.kind 1 2&&sI c)=gQ c:=by
 unfold sI gQ
 cases jr c.keys
 ·simp
 ·rw[Bool.eq_iff_iff]
  simp[aQ];omega
def nI (c:Call) (time:Int):Bool:=!(!aQ c.aC 0 1||!aQ c.num 1 99||!aQ c.kind 1 2||!sI c||!aQ c.val 0 9999||!bT c.ctx||!bT c.aM||!aQ c.bm 1 time)
def uf (c:Call):Bool:=!(((c.kind==1)&&decide (0<(c.ax.length:Int)+c.aM.length))||((c.kind==2)&&(decide (0<c.val)||!dR c.aA))||!jz c.aA||decide ((c.keys.length:Int)<c.ax.length))
def yA (c:Call):Bool:=!(decide (0<(c.aM.length:Int))&&decide ((c.ax.length:Int)<c.keys.length))
def yB (c:Call) (time:Int):Bool:=if c.end_=0 then dR c.aA else !c.over&&aQ c.end_ (c.bm+1) time&&((c.aM.length:Int)==0)&&(((c.kind==1)&&c6 c.aA)||((c.kind==2)&&((c.ax.length:Int)==c.keys.length)))
theorem HO (n:Nat):decide (0<(n:Int))=!decide (n=0):=by
 rw[Bool.eq_iff_iff];simp;omega
theorem HP (n m:Nat):decide (0<(n:Int)+m)=!(decide (n=0)&&decide (m=0)):=by
 rw[Bool.eq_iff_iff];simp;omega
theorem HQ (n m:Nat):((n:Int)==m)=decide (n=m):=by
 rw[Bool.eq_iff_iff];simp;omega
theorem P2 (n:Nat):((n:Int)==0)=decide (n=0):=by
 rw[Bool.eq_iff_iff];simp
theorem P3 {n m:Nat} (h:n≤m):decide ((n:Int)<m)=!decide (n=m):=by
 rw[Bool.eq_iff_iff];simp;omega
theorem sJ (c:Call) (time:Int):eL c time=(nI c time&&uf c&&cO c.ax.length (q8 c)&&yA c&&cO c.aM.length (q9 c)&&yB c time):=by
 have e0:aQ c.aC 0 1=eC c.aC:=rfl
 cases jn:gQ c
 ·have h1:eL c time=false:=by simp[eL,ka,jn]
  have h2:nI c time=false:=by
   rw[←HN] at jn
   unfold nI
   cases h3:aQ c.kind 1 2
   ·simp
   ·rw[h3,Bool.true_and] at jn;rw[jn];simp
  rw[h1,h2];simp
 ·have yC:jr c.keys=true:=by unfold gQ at jn;rw[Bool.and_eq_true] at jn;exact jn.1
  have rf:=jn
  rw[←HN,Bool.and_eq_true] at rf
  have HR:c.kind=1∨c.kind=2:=by have:=rf.1;simp[aQ] at this;omega
  have e1:cO c.ax.length (q8 c)=lq c:=vD rfl fun i _=>PZ yC i
  rw[e1]
  cases hg:lq c
  ·simp[eL,ka,mR,hg]
  ·have hle:=Ck yC hg
   cases cD:bT c.aM
   ·simp[eL,ka,nI,cD]
   ·have e2:cO c.aM.length (q9 c)=cO c.aM.length (nH c):=vD rfl fun i hi=>P1 hg cD hi
    rw[e2]
    unfold eL ka mR ud l9 nI uf yA yB
    rw[e0,jn,rf.1,rf.2,hg,cD]
    generalize eC c.aC=b1
    generalize aQ c.num 1 99=b2
    generalize bT c.ctx=b4
    generalize aQ c.bm 1 time=b5
    generalize cO c.aM.length (nH c)=b6
    generalize aQ c.end_ (c.bm+1) time=b7
    have e3:(decide (0<c.val)&&aQ c.val 0 9999)=((c.val !=0)&&aQ c.val 0 9999):=by
     rw[Bool.eq_iff_iff];simp[aQ];omega
    have e4:mQ c=decide (c.ax.length=c.keys.length):=HQ _ _
    have e5:((c.aM.length:Int)==0)=decide (c.aM.length=0):=P2 _
    have e6:decide (0<(c.aM.length:Int))=!decide (c.aM.length=0):=HO _
    have e7:decide ((c.ax.length:Int)<c.keys.length)=!decide (c.ax.length=c.keys.length):=P3 hle
    have e8:decide ((c.keys.length:Int)<c.ax.length)=false:=by simp;omega
    have e9:((c.ax.length:Int)==c.keys.length)=decide (c.ax.length=c.keys.length):=HQ _ _
    have P4:decide (0<(c.ax.length:Int)+c.aM.length)=!(decide (c.ax.length=0)&&decide (c.aM.length=0)):=HP _ _
    rw[e4,e5,e6,e7,e8,e9,P4]
    have P5:jz c.aA=(dR c.aA||c6 c.aA):=rfl
    rw[P5]
    cases hv:aQ c.val 0 9999
    ·simp
    ·rw[hv,Bool.and_true,Bool.and_true] at e3
     rw[e3]
     generalize decide (c.ax.length=c.keys.length)=b9
     generalize decide (c.ax.length=0)=kb
     generalize decide (c.aM.length=0)=kd
     generalize (c.val !=0)=sK
     generalize c.over=oH
     by_cases hn:dR c.aA=true
     ·have hs:c6 c.aA=false:=by
       cases hs:c6 c.aA
       ·rfl
       ·have:=rb hs;simp[dR] at hn;omega
      rw[hn,hs]
      rcases HR with hh|hh<;>rw[hh]<;>by_cases he:c.end_=0<;>simp[he]<;>revert b1 b2 b4 b5 b6 b7 b9 kb kd sK oH<;>decide
     ·simp only[Bool.not_eq_true] at hn
      rw[hn]
      generalize c6 c.aA=yD
      rcases HR with hh|hh<;>rw[hh]<;>by_cases he:c.end_=0<;>simp[he]<;>revert b1 b2 b4 b5 b6 b7 b9 kb kd sK yD oH<;>decide
def ke (d k:Call):Bool:=(d.aC==k.aC)&&!d.over&&((d.end_==0)||decide (k.bm≤d.end_))
def fo (l:List Call) (k:Nat) (x:Int):Int:=(((l.take k).filter fun d=>d.aC==x).length:Nat)
theorem Cl (l:List Call):fo l 0=fun _=>0:=by funext x;simp[fo]
theorem p6 {l:List Call} {k:Nat} (h:k<l.length) (x:Int):fo l (k+1) x=if(ab l k).aC=x then fo l k x+1 else fo l k x:=by
 unfold fo
 rw[dL h,List.filter_append,List.length_append]
 by_cases hx:(ab l k).aC=x<;>simp[hx]
theorem P6 {l:List Call} {k:Nat} (h:k<l.length):(fun y=>if y=(ab l k).aC then fo l k (ab l k).aC+1 else fo l k y)=fo l (k+1):=by
 funext y
 rw[p6 h]
 by_cases hy:y=(ab l k).aC
 ·subst hy;simp
 ·rw[if_neg hy,if_neg fun h=>hy h.symm]
theorem yE (l:List Call) (k:Nat) (x:Int):0≤fo l k x∧fo l k x≤k:=by
 unfold fo
 have:=List.length_filter_le (fun d:Call=>d.aC==x) (l.take k)
 have h2:(l.take k).length≤k:=by simp;omega
 omega
def ug (l:List Call) (time:Int) (i:Nat):Bool:=eL (ab l i) time&&(decide (i=0)||decide ((ab l (i-1)).bm<(ab l i).bm))
def ku (l:List Call) (time:Int) (i:Nat):Bool:=(ug l time i&&((ab l i).num==fo l (i+1) (ab l i).aC))&&cO i fun j=>!ke (ab l j) (ab l i)
def iu (l:List Call) (time:Int):Bool:=cO l.length (ku l time)&&decide (l.length≤20)
theorem HT (l:List Call) (time:Int) (k:Nat):(!eL (ab l k) time||(decide (0<(k:Int))&&decide ((ab l k).bm≤(ab l ((k:Int)-1).toNat).bm)))=!ug l time k:=by
 have e:=qK (fun d=>eL d time) (fun a b=>decide (a.bm<b.bm)) l k
 have e2:decide ((ab l k).bm≤(ab l ((k:Int)-1).toNat).bm)=!decide ((ab l ((k:Int)-1).toNat).bm<(ab l k).bm):=by rw[Bool.eq_iff_iff];simp
 rw[e2,e];rfl
theorem HU (l:List Call) (time:Int) (k:Nat):((!eL (ab l k) time||(decide (0<(k:Int))&&decide ((ab l k).bm≤(ab l ((k:Int)-1).toNat).bm)))||((ab l k).num !=fo l (k+1) (ab l k).aC))=!(ug l time k&&((ab l k).num==fo l (k+1) (ab l k).aC)):=by
 rw[HT];simp[bne]
def wq (w:be):Bool:=!(!aQ w.time 0 99999||((w.au.length:Int) !=4)||decide (60<(w.ao.length:Int))||((w.seen.length:Int) !=2))
def rh (w:be) (i:Nat):Bool:=((ab w.au i).site==(i:Int))&&fV (ab w.au i)
def wu (m:aD):Bool:=!bN m
def wv (l:List ar):Bool:=!bT l
def iR (w:be):Bool:=wq w&&cO w.au.length (rh w)&&!hasB wu w.ao&&!hasB wv w.seen&&iu w.calls w.time
theorem P7 (w:be) (k:Nat):(((ab w.au k).site !=(k:Int))||!fV (ab w.au k))=!rh w k:=by simp[rh,bne]
theorem HV (w:be) (k:Nat):(!fV (ab w.au k)||((ab w.au k).site !=(k:Int)))=!rh w k:=by rw[Bool.or_comm,P7]
theorem wx {α:Type} [Inhabited α] (p:α→Bool) (l:List α):(!hasB p l)=cO l.length fun i=>!p (ab l i):=by
 rw[Bool.eq_iff_iff,iy]
 constructor
 ·intro h i hi
  simp only[Bool.not_eq_true'] at h⊢
  cases hp:p (ab l i)
  ·rfl
  ·rw[yy (bx hi) hp] at h;cases h
 ·intro h
  simp only[Bool.not_eq_true']
  cases hh:hasB p l
  ·rfl
  ·obtain⟨x,hx,hp⟩:=Ci hh
   obtain⟨k,hk,rfl⟩:=hO hx
   have:=h k hk
   rw[hp] at this;cases this
def dF (a b:ct):ct:=if cY a b then b else a
theorem yF (a b x:ct):cY x (dF a b)=(cY x a||cY x b):=by
 obtain⟨t,s⟩:=a
 obtain⟨t',s'⟩:=b
 obtain⟨t2,s2⟩:=x
 unfold dF
 rw[Bool.eq_iff_iff]
 by_cases h:cY ⟨t,s⟩ ⟨t',s'⟩=true
 ·rw[if_pos h]
  simp[cY] at h⊢;omega
 ·rw[if_neg h]
  simp[cY] at h⊢;omega
theorem Cm {a b:ct} (h:∀x,cY x a=cY x b):a=b:=by
 have h1:=h a
 have h2:=h b
 have e:∀s:ct,cY s s=false:=fun s=>by simp[cY]
 rw[e] at h1 h2
 exact Hs h1.symm h2
theorem Cn (a b d:ct):dF (dF a b) d=dF a (dF b d):=Cm fun x=>by simp only[yF,Bool.or_assoc]
theorem P8 (a b:ct):dF a b=dF b a:=Cm fun x=>by simp only[yF];rw[Bool.or_comm]
theorem jT (e:ar) (r:List ar) (key:Int):bY (e::r) key=if e.key=key then e.aA else bY r key:=by
 unfold bY
 rw[List.find?_cons]
 by_cases h:e.key=key
 ·rw[if_pos h,show mO key e=true by simp[mO,h]]
 ·rw[if_neg h,show mO key e=false by simp[mO,h]]
theorem uh:∀{l:List ar} {last key:Int},db last l=true→key≤last→bY l key=⟨0,0⟩
 |[],_,_,_,_=>rfl
 |e::r,last,key,h,hk=>by
  have hh:=h
  simp only[db,Bool.and_eq_true,aQ,decide_eq_true_eq] at h
  rw[jT,if_neg (by omega)]
  exact uh h.2 (by omega)
theorem nJ {s:ct} (h:s=fW∨c6 s=true):dF fW s=s:=by
 unfold dF
 rcases h with rfl|h
 ·simp
 ·rw[if_pos (HI (rb h))]
theorem wy {s:ct} (h:s=fW∨c6 s=true):dF s fW=s:=by rw[P8,nJ h]
theorem p7:∀{l:List ar} {last:Int},db last l=true→∀key,bY l key=fW∨c6 (bY l key)=true
 |[],_,_,key=>Or.inl rfl
 |e::r,last,h,key=>by
  simp only[db,Bool.and_eq_true] at h
  rw[jT]
  split
  ·exact Or.inr h.1.2
  ·exact p7 h.2 key
theorem yG:∀{l:List ar} {last:Int} {d:ar} (key:Int),db last l=true→c6 d.aA=true→bY (gl l d) key=if d.key=key then dF (bY l key) d.aA else bY l key
 |[],last,d,key,_,hs=>by
  unfold gl
  rw[jT]
  split
  ·show d.aA=dF fW d.aA
   rw[nJ (Or.inr hs)]
  ·rfl
 |e::r,last,d,key,h,hs=>by
  have h':=h
  simp only[db,Bool.and_eq_true] at h
  unfold gl
  split
  ·rename_i hk
   rw[jT,jT]
   have e1:(if cY e.aA d.aA=true then d else e).key=e.key:=by split<;>simp[hk]
   rw[e1,hk]
   split
   ·unfold dF;split<;>rfl
   ·rfl
  ·rename_i hk
   split
   ·rename_i bJ
    rw[jT]
    split
    ·rename_i iB
     have:bY (e::r) key=fW:=by
      have hd:db d.key (e::r)=true:=by
       simp only[db,Bool.and_eq_true]
       refine⟨⟨?_,h.1.2⟩,h.2⟩
       have:=h.1.1
       simp[aQ] at this⊢;omega
      exact uh hd (by omega)
     rw[this,nJ (Or.inr hs)]
    ·rfl
   ·rename_i bJ
    rw[jT,jT,yG key h.2 hs]
    by_cases ui:e.key=key
    ·rw[if_pos ui,if_pos ui,if_neg (by omega)]
    ·rw[if_neg ui,if_neg ui]
theorem Co {a b:List ar} (ha:bT a=true) (hb:bT b=true) (key:Int):bY (iE a b) key=dF (bY a key) (bY b key):=by
 have rU:∀d∈b,jq d=true:=fun d hd=>nG hb hd
 have P9:∀{b:List ar} {last:Int} {a:List ar},bT a=true→db last b=true→(∀d∈b,jq d=true)→bY (iE a b) key=dF (bY a key) (bY b key):=by
  intro b
  induction b with
  |nil=>
   intro last a ha _ _
   show bY a key=dF (bY a key) fW
   rw[wy (p7 ha key)]
  |cons d r ih=>
   intro last a ha hb aT
   have hd:=aT d (by simp)
   have gK:=hd
   simp only[jq,Bool.and_eq_true] at gK
   simp only[db,Bool.and_eq_true] at hb
   show bY (iE (gl a d) r) key=_
   rw[ih (wk ha hd) hb.2 fun e he=>aT e (by simp[he]),yG key ha gK.2,jT]
   split
   ·rename_i hk
    have:bY r key=fW:=uh hb.2 (by omega)
    rw[this,wy]
    have h1:=p7 ha key
    rcases h1 with h1|h1
    ·rw[h1,nJ (Or.inr gK.2)];exact Or.inr gK.2
    ·right
     unfold dF;split
     ·exact gK.2
     ·exact h1
   ·rfl
 exact P9 ha hb rU
theorem HW:∀{a b:List ar} {last:Int},db last a=true→db last b=true→(∀key,bY a key=bY b key)→a=b
 |[],[],_,_,_,_=>rfl
 |[],e::r,_,_,h,he=>by
  have:=he e.key
  rw[jT,if_pos rfl] at this
  simp only[db,Bool.and_eq_true] at h
  have h1:=rb h.1.2
  rw[←this] at h1
  simp[bY] at h1
 |e::r,[],_,h,_,he=>by
  have:=he e.key
  rw[jT,if_pos rfl] at this
  simp only[db,Bool.and_eq_true] at h
  have h1:=rb h.1.2
  rw[this] at h1
  simp[bY] at h1
 |e::r,e'::r',last,h,h',he=>by
  have g:=h
  have g':=h'
  simp only[db,Bool.and_eq_true] at h h'
  have bn:∀{e e':ar} {r r':List ar},c6 e.aA=true→db e'.key r'=true→(∀key,bY (e::r) key=bY (e'::r') key)→¬e.key<e'.key:=fun{e e' r r'} hs hr he bJ=>by
   have:=he e.key
   rw[jT,if_pos rfl,jT,if_neg (by omega),uh hr (by omega)] at this
   have h1:=rb hs
   rw[this] at h1;simp at h1
  have hk:e.key=e'.key:=by
   have h1:=bn h.1.2 h'.2 he
   have h2:=bn h'.1.2 h.2 fun key=>(he key).symm
   omega
  have cm:e.aA=e'.aA:=by
   have:=he e.key
   rwa[jT,if_pos rfl,jT,if_pos hk.symm] at this
  have hr:r=r':=by
   rw[←hk] at h'
   refine HW h.2 h'.2 fun key=>?_
   have:=he key
   rw[jT,jT,←hk] at this
   by_cases HX:e.key=key
   ·rw[uh h.2 (by omega),uh h'.2 (by omega)]
   ·rwa[if_neg HX,if_neg HX] at this
  obtain⟨k1,s1⟩:=e
  obtain⟨k2,s2⟩:=e'
  simp at hk cm
  rw[hk,cm,hr]
def p8 (s:ct):Prop:=s=fW∨c6 s=true
theorem HY {a b:ct} (ha:p8 a) (hb:p8 b):p8 (dF a b):=by unfold dF;split<;>assumption
def kv (out:List ar) (a:Answer):List ar:=iE out a.bG.aS
def ez (c:Call):List ar:=c.ax.foldl kv []
def ma (out:List ar) (a:Answer):List ar:=if a.yes then gl (iE out a.bG.aS) a.bG.bH else out
def oI (out:List ar) (a:Answer):List ar:=if a.yes then gl out ⟨a.key,a.bG.aA⟩ else out
def hP (c:Call):List ar:=if c.end_=0 then c.ctx else if c.kind=1 then gl c.ctx ⟨ab c.keys 0,c.aA⟩ else c.ax.foldl ma c.ctx
def Cp (c:Call):List ar:=if c.end_=0 then c.ctx else if c.kind=1 then gl c.ctx ⟨ab c.keys 0,c.aA⟩ else c.ax.foldl oI (iE c.ctx (ez c))
theorem ri {a:Answer} (h:dE a=true) (hy:a.yes=true):et a.bG=true∧a.bG.key=a.key:=by
 unfold dE at h;rw[hy] at h;simpa using h
theorem yH {a:Answer} (h:dE a=true) (hy:a.yes=false):a.bG=q5:=by
 unfold dE at h;rw[hy] at h;simpa[oG] using h
theorem jE {v:aK} (h:et v=true):cU v.key=true∧c6 v.aA=true∧bT v.aS=true:=by
 simp only[et,Bool.and_eq_true] at h
 exact⟨h.1.1.1.1.1.1,h.1.1.1.1.1.2,h.1.2⟩
theorem p9 {a:Answer} (h:dE a=true):bT a.bG.aS=true:=by
 cases hy:a.yes
 ·rw[yH h hy];rfl
 ·exact(jE (ri h hy).1).2.2
theorem wz {a:Answer} (h:dE a=true) (hy:a.yes=true):jq a.bG.bH=true∧a.bG.bH=⟨a.key,a.bG.aA⟩:=by
 have h1:=ri h hy
 have h2:=jE h1.1
 refine⟨by simp[jq,aK.bH,h2.1,h2.2.1],?_⟩
 rw[←h1.2];rfl
def oJ:List Answer→Int→ct
 |[],_=>fW
 |a::r,key=>dF (bY a.bG.aS key) (oJ r key)
def qc:List Answer→Int→ct
 |[],_=>fW
 |a::r,key=>dF (if a.yes=true∧a.key=key then a.bG.aA else fW) (qc r key)
theorem Cq:∀{l:List Answer},(∀a∈l,dE a=true)→∀key,p8 (oJ l key)
 |[],_,_=>Or.inl rfl
 |a::r,h,key=>HY (p7 (p9 (h a (by simp))) key) (Cq (fun b hb=>h b (by simp[hb])) key)
theorem wA:∀{l:List Answer},(∀a∈l,dE a=true)→∀key,p8 (qc l key)
 |[],_,_=>Or.inl rfl
 |a::r,h,key=>by
  refine HY ?_ (wA (l:=r) (fun b hb=>h b (by simp[hb])) key)
  split
  ·rename_i hy
   exact Or.inr (jE (ri (h a (by simp)) hy.1).1).2.1
  ·exact Or.inl rfl
theorem qd:∀{l:List Answer} {acc:List ar},bT acc=true→(∀a∈l,dE a=true)→bT (l.foldl kv acc)=true∧∀key,bY (l.foldl kv acc) key=dF (bY acc key) (oJ l key)
 |[],acc,ha,_=>⟨ha,fun key=>by show bY acc key=dF (bY acc key) fW;rw[wy (p7 ha key)]⟩
 |a::r,acc,ha,h=>by
  have hd:=p9 (h a (by simp))
  have h1:bT (kv acc a)=true:=uc ha fun d gK=>nG hd gK
  have h2:=qd (l:=r) h1 fun b hb=>h b (by simp[hb])
  refine⟨h2.1,fun key=>?_⟩
  show bY (r.foldl kv (kv acc a)) key=_
  rw[h2.2 key]
  unfold kv
  rw[Co ha hd,Cn];rfl
theorem yI:∀{l:List Answer} {acc:List ar},bT acc=true→(∀a∈l,dE a=true)→bT (l.foldl oI acc)=true∧∀key,bY (l.foldl oI acc) key=dF (bY acc key) (qc l key)
 |[],acc,ha,_=>⟨ha,fun key=>by show bY acc key=dF (bY acc key) fW;rw[wy (p7 ha key)]⟩
 |a::r,acc,ha,h=>by
  have hg:=h a (by simp)
  cases hy:a.yes
  ·have e:oI acc a=acc:=by unfold oI;rw[hy];simp
   have h2:=yI (l:=r) ha fun b hb=>h b (by simp[hb])
   rw[List.foldl_cons,e]
   refine⟨h2.1,fun key=>?_⟩
   rw[h2.2 key]
   show _=dF _ (dF (if a.yes=true∧a.key=key then a.bG.aA else fW) (qc r key))
   rw[if_neg (by rw[hy];simp),nJ (wA (l:=r) (fun b hb=>h b (by simp[hb])) key)]
  ·have hd:=wz hg hy
   have e:oI acc a=gl acc ⟨a.key,a.bG.aA⟩:=by unfold oI;rw[hy];simp
   have cm:c6 a.bG.aA=true:=(jE (ri hg hy).1).2.1
   have h2:=yI (l:=r) (wk ha (hd.2▸hd.1)) fun b hb=>h b (by simp[hb])
   rw[List.foldl_cons,e]
   refine⟨h2.1,fun key=>?_⟩
   rw[h2.2 key,yG key ha cm]
   show _=dF _ (dF (if a.yes=true∧a.key=key then a.bG.aA else fW) (qc r key))
   by_cases hk:a.key=key
   ·rw[if_pos hk,if_pos ⟨hy,hk⟩,Cn]
   ·rw[if_neg hk,if_neg fun h=>hk h.2,nJ (wA (l:=r) (fun b hb=>h b (by simp[hb])) key)]
theorem uj:∀{l:List Answer} {acc:List ar},bT acc=true→(∀a∈l,dE a=true)→bT (l.foldl ma acc)=true∧∀key,bY (l.foldl ma acc) key=dF (bY acc key) (dF (oJ l key) (qc l key))
 |[],acc,ha,_=>⟨ha,fun key=>by show bY acc key=dF (bY acc key) (dF fW fW);rw[nJ (Or.inl rfl),wy (p7 ha key)]⟩
 |a::r,acc,ha,h=>by
  have hg:=h a (by simp)
  have hr:∀b∈r,dE b=true:=fun b hb=>h b (by simp[hb])
  cases hy:a.yes
  ·have e:ma acc a=acc:=by unfold ma;rw[hy];simp
   have h2:=uj (l:=r) ha hr
   rw[List.foldl_cons,e]
   refine⟨h2.1,fun key=>?_⟩
   rw[h2.2 key]
   show _=dF _ (dF (dF (bY a.bG.aS key) (oJ r key)) (dF (if a.yes=true∧a.key=key then a.bG.aA else fW) (qc r key)))
   rw[if_neg (by rw[hy];simp),nJ (wA hr key),yH hg hy]
   show _=dF _ (dF (dF fW (oJ r key)) (qc r key))
   rw[nJ (Cq hr key)]
  ·have hd:=wz hg hy
   have xT:=p9 hg
   have hv:=ri hg hy
   have e:ma acc a=gl (iE acc a.bG.aS) a.bG.bH:=by unfold ma;rw[hy];simp
   have cm:c6 a.bG.bH.aA=true:=(jE hv.1).2.1
   have hj:bT (iE acc a.bG.aS)=true:=uc ha fun d gK=>nG xT gK
   have h2:=uj (l:=r) (wk hj hd.1) hr
   rw[List.foldl_cons,e]
   refine⟨h2.1,fun key=>?_⟩
   rw[h2.2 key,yG key hj cm,Co ha xT]
   show _=dF _ (dF (dF (bY a.bG.aS key) (oJ r key)) (dF (if a.yes=true∧a.key=key then a.bG.aA else fW) (qc r key)))
   have e2:a.bG.bH.key=a.key:=hv.2
   rw[e2]
   have e3:a.bG.bH.aA=a.bG.aA:=rfl
   rw[e3]
   apply Cm
   intro x
   by_cases hk:a.key=key
   ·rw[if_pos hk,if_pos ⟨hy,hk⟩]
    simp only[yF]
    cases cY x (bY acc key)<;>cases cY x (bY a.bG.aS key)<;>cases cY x (oJ r key)<;>cases cY x a.bG.aA<;>simp
   ·rw[if_neg hk,if_neg fun h=>hk h.2,nJ (wA hr key)]
    simp only[yF]
    cases cY x (bY acc key)<;>cases cY x (bY a.bG.aS key)<;>cases cY x (oJ r key)<;>simp
theorem Qa {c:Call} (hc:bT c.ctx=true) (h:∀a∈c.ax,dE a=true):Cp c=hP c:=by
 unfold hP Cp
 split
 ·rfl
 ·split
  ·rfl
  ·have yJ:=qd (acc:=[]) rfl h
   have gR:bT (ez c)=true:=yJ.1
   have hj:bT (iE c.ctx (ez c))=true:=uc hc fun d hd=>nG gR hd
   have h1:=yI hj h
   have h2:=uj hc h
   refine HW h1.1 h2.1 fun key=>?_
   rw[h1.2 key,h2.2 key,Co hc gR]
   have e:bY (ez c) key=oJ c.ax key:=by
    show bY (c.ax.foldl kv []) key=_
    rw[yJ.2 key]
    show dF fW _=_
    exact nJ (Cq h key)
   rw[e,Cn]
theorem yK {c:Call} {time:Int} (h:eL c time=true):bT c.ctx=true∧(∀a∈c.ax,dE a=true)∧gQ c=true∧eC c.aC=true∧1≤c.bm∧c.bm≤time:=by
 simp only[eL,ka,mR,Bool.and_eq_true] at h
 have hg:lq c=true:=h.1.1.2.1.1
 have hb:=h.1.1.1.1.2
 simp[aQ] at hb
 refine⟨h.1.1.1.1.1.1.2,fun a ha=>?_,h.1.1.1.1.1.1.1.1.2,h.1.1.1.1.1.1.1.1.1.1,hb.1,hb.2⟩
 obtain⟨k,hk,rfl⟩:=hO ha
 exact(Cj hg hk).1
theorem Qb {c:Call} {t t':Int} (h:eL c t=true) (ht:t≤t'):eL c t'=true:=by
 simp only[eL,ka,Bool.and_eq_true] at h⊢
 have h1:aQ c.bm 1 t'=true:=by
  have:=h.1.1.1.1.2
  simp[aQ] at this⊢;omega
 have h2:l9 c t'=true:=by
  have:=h.2
  unfold l9 at this⊢
  split
  ·rename_i he;rwa[if_pos he] at this
  ·rename_i he
   rw[if_neg he] at this
   have e:aQ c.end_ (c.bm+1) t'=true:=by
    simp[aQ] at this⊢;omega
   have e':aQ c.end_ (c.bm+1) t=true:=by
    simp[aQ] at this⊢;omega
   rw[e];rwa[e'] at this
 exact⟨⟨⟨⟨⟨h.1.1.1.1.1,h1⟩,h.1.1.1.2⟩,h.1.1.2⟩,h.1.2⟩,h2⟩
theorem Cr {c:Call} {t:Int} (h:eL c t=true):eL c (c.bm+c.end_)=true:=by
 have hp:=yK h
 simp only[eL,ka,Bool.and_eq_true] at h⊢
 have he:c.end_=0∨c.bm+1≤c.end_:=by
  have:=h.2
  unfold l9 at this
  by_cases h0:c.end_=0
  ·exact Or.inl h0
  ·rw[if_neg h0] at this
   right
   simp[aQ] at this;omega
 have h1:aQ c.bm 1 (c.bm+c.end_)=true:=by simp[aQ];omega
 have h2:l9 c (c.bm+c.end_)=true:=by
  have:=h.2
  unfold l9 at this⊢
  by_cases h0:c.end_=0
  ·rwa[if_pos h0] at this⊢
  ·rw[if_neg h0] at this⊢
   have e:aQ c.end_ (c.bm+1) (c.bm+c.end_)=true:=by simp[aQ];omega
   have e':aQ c.end_ (c.bm+1) t=true:=by
    simp[aQ] at this⊢;omega
   rw[e];rwa[e'] at this
 exact⟨⟨⟨⟨⟨h.1.1.1.1.1,h1⟩,h.1.1.1.2⟩,h.1.1.2⟩,h.1.2⟩,h2⟩
end Go.Proofs.YtoeioeimmfpefaaGreat
