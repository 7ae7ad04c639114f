/- Part 15: contracts of functions, plain facts. -/
import Derived.Test.YtldbakcpcfdlaaaGreatP12
set_option linter.all false
set_option maxRecDepth 100000
set_option maxHeartbeats 4000000
namespace Go.Proofs.YtldbakcpcfdlaaaGreat
open Go Go.RowKit Tryz
attribute [local irreducible] wpList Code.wp Ok
def Gt (l:List ao) (k:Nat):(!dp (ae l k).key||!dB (ae l k).aw||(decide (0<(k:Int))&&!ec (ae l ((k:Int)-1).toNat) (ae l k)))=!eU kt ec l k:=by
 rw[<-sO];simp[kt]
def MS (l:List ao) (k:Nat):(!dp (ae l k).key||!dB (ae l k).aw||(decide (0<(k:Int))&&(decide ((ae l k).key<(ae l ((k:Int)-1).toNat).key)||((ae l ((k:Int)-1).toNat).key==(ae l k).key&&!dy (ae l ((k:Int)-1).toNat).aw (ae l k).aw))))=!eU kt ec l k:=by
 rw[<-Gt];congr 2;generalize ae l ((k:Int)-1).toNat=p;generalize ae l k=q;simp only[ec];rcases Int.lt_trichotomy p.key q.key with h|h|h
 .have h1:¬q.key<p.key:=by omega
  have h2:(p.key==q.key)=false:=by simp;omega
  simp[h,h1,h2]
 .simp[h]
 have h1:¬p.key<q.key:=by omega
 have h2:(p.key==q.key)=false:=by simp;omega
 simp[h,h1,h2]
def Wq (l:List (Call)) (p:(Call)->Bool) (fv:AV) (hf:∀x:Call,x∈l->lg prog fv [x.av] (AV.bool (p x))):
 Fn prog 93 [jb l,fv] (AV.int (dK p l)):=by
 refine Fn.go 19 func93 ntmps93 (λW I a U=>?_);have hle:=U.dD (t:=0) rfl;refine aU λI a w U=>?_;refine St.lo (σ:=Nat) (run 2 4 (run 11 8 [])) ⟨λk=>[(8,AV.int k)],λk=>[],λk=>k<=l.length/\∀i,i<k->p (ae l i)=false⟩ (λk=>l.length-k) 0 U ?aD ?bh;case aD=>exact⟨Nat.zero_le _,λi hi=>by omega⟩
 rintro k I a w aj U;obtain⟨hk,aT⟩:=aj;refine al λI a w U=>?_;refine cz (λab=>?_) λab=>?_
 .refine fm λI a w U=>?_;refine U.o (vQ (hf _ (bK ab)) .tt (an .tt aH)) λU=>?_;refine zt ?_;refine U.cd (λah=>?_) λah=>?_
  .refine cK ?_;exact cj (mQ ab aT ah).symm
  refine ax λI a w U=>?_;exact U.ag (k+1) (⟨ab,λi h1=>by rcases Nat.lt_succ_iff_lt_or_eq.1 h1 with h|h;exact aT i h;rw[h];exact ah⟩)
 refine zt ?_;refine aW ?_;exact cj (l9 om aT).symm
def Gu (x:ct):(!aS x.bX 0 9999||!aS x.fg 0 2||((x.fg !=0)&&(x.bX==0)))=!pg x:=by simp[pg]
def oA (key:Int) (d:ao):Bool:=d.key==key
def cB (l:List ao) (key:Int):cG:=match l.find? (oA key) with
 |some d=>d.aw
 |none=>⟨0,0⟩
def Gv:∀{l:List ao} {last:Int},dL last l=true->∀d∈l,last<d.key/\d.key<=5/\dB d.aw=true
 |[],_,_,d,hd=>by simp at hd
 |e::r,last,h,d,hd=>by
  simp only[dL,Bool.and_eq_true,aS,decide_eq_true_eq] at h;rcases List.mem_cons.1 hd with rfl|hd
  .exact⟨by omega,h.1.1.2,h.1.2⟩
  have:=Gv h.2 d hd;exact⟨by omega,this.2⟩
def MT:∀{l:List ao} {last:Int},dL last l=true->∀{i j:Nat},i<j->j<l.length->(ae l i).key<(ae l j).key
 |[],_,_,i,j,_,hj=>by simp at hj
 |e::r,last,h,0,j+1,_,hj=>by
  simp only[dL,Bool.and_eq_true] at h;have El:j<r.length:=by simpa using hj
  exact(Gv h.2 _ (bK El)).1
 |e::r,last,h,i+1,j+1,j3,hj=>by
  simp only[dL,Bool.and_eq_true] at h;exact MT h.2 (i:=i) (j:=j) om (by simpa using hj)
def zX {l:List ao} (h:ck l=true) {i j:Nat} (j3:i<j) (hj:j<l.length):(ae l i).key<(ae l j).key:=MT h j3 hj
section
variable {l:List ao} {d:ao} {k:Nat} {out:List ao} {done:Bool}
def jR.same (hp:jR l d k done out) (hl:ck l=true) (h:k<l.length) (he:(ae l k).key=d.key):done=false/\jR l d (k+1) true (out++[if dy (ae l k).aw d.aw then d else ae l k]):=by
 have hd:done=false:=by
  cases done
  .rfl
  have:=hp.late rfl k (Nat.le_refl _) h;omega
 subst hd;refine⟨rfl,h,?_,λ_ i hi jN=>?_,by have:=hp.len;simp at this⊢;omega⟩
 .have:=hp.eq;rw[lh h] at this;simp only[gT,if_pos he] at this;rw[this];simp
 rw[<-he];exact zX hl om jN
def jR.before (hp:jR l d k false out) (hl:ck l=true) (h:k<l.length) (he:d.key<(ae l k).key):jR l d (k+1) true ((out++[d])++[ae l k]):=by
 refine⟨h,?_,λ_ i hi jN=>?_,by have:=hp.len;simp at this⊢;omega⟩
 .have:=hp.eq;rw[lh h] at this;simp only[gT,if_neg (show¬(ae l k).key=d.key by omega),if_pos he] at this;rw[this];simp
 have:=zX hl (i:=k) (j:=i) om jN;omega
def jR.step (hp:jR l d k done out) (h:k<l.length) (he:(ae l k).key≠d.key) (hn:done=false->(ae l k).key<=d.key):jR l d (k+1) done (out++[ae l k]):=by
 refine⟨h,?_,λhd i hi jN=>hp.late hd i om jN,by have:=hp.len;simp;omega⟩;have:=hp.eq;cases done
 .rw[lh h] at this;have:=hn rfl;simp_all only[gT];simp;omega
 simp only[if_true] at this⊢;rw[this,lh h];simp
def jR.rY (hp:jR l d k true out) (h:l.length<=k):out=gT l d:=by
 have:=hp.eq;rw[List.drop_eq_nil_of_le h] at this;simpa using this.symm
def jR.rZ (hp:jR l d k false out) (h:l.length<=k):out++[d]=gT l d:=by
 have:=hp.eq;rw[List.drop_eq_nil_of_le h] at this;simpa[gT] using this.symm
end
def MU {l:List ao} {key:Int} {k:Nat} (hk:k<l.length) (h:∀i,i<k->oA key (ae l i)=false) (hp:oA key (ae l k)=true):cB l key=(ae l k).aw:=by
 have:l.find? (oA key)=some (ae l k):=by
  rw[List.find?_eq_some_iff_getElem];refine⟨hp,k,hk,by simp[ae,hk],λj hj=>?_⟩;have kq:j<l.length:=by omega
  have:=h j hj;simpa[ae,kq] using this
 unfold cB;rw[this]
def MV {l:List ao} {key:Int} {k:Nat} (hk:l.length<=k) (h:∀i,i<k->oA key (ae l i)=false):cB l key=⟨0,0⟩:=by
 have:l.find? (oA key)=none:=by
  rw[List.find?_eq_none];intro x hx;obtain⟨i,hi,rfl⟩:=iq hx;rw[h i om];simp
 unfold cB;rw[this]
def nN (a b:Int):Bool:=decide (a<b)
def kf (l:List Int):Bool:=dh l.length (eU dp nN l)
def iz (c:Call):Bool:=kf c.keys&&((c.kind==1&&((c.keys.length:Int)==1))||(c.kind==2&&aS c.keys.length 1 3))
def tj:aJ:=⟨0,⟨0,0⟩,0,0,0,[]⟩
def qF (v u:aJ):Bool:=decide (v=u)
def eh (a:Answer):Bool:=if a.yes then fi a.bl&&(a.bl.key==a.key) else qF a.bl tj
def w7 (c:Call):Bool:=!((c.kind==1&&decide (0<(c.au.length:Int)+c.aO.length))||(!(c.kind==1)&&((c.val !=0)||!eH c.aw)))
def MW (l:List Int) (k:Nat):(!dp (ae l k)||(decide (0<(k:Int))&&decide (ae l k<=ae l ((k:Int)-1).toNat)))=!eU dp nN l k:=by
 rw[<-sO];have e:decide (ae l k<=ae l ((k:Int)-1).toNat)=!nN (ae l ((k:Int)-1).toNat) (ae l k):=by rw[Bool.eq_iff_iff];simp[nN]
 rw[e]
def MX (a:Answer):((a.yes&&(!fi a.bl||(a.bl.key !=a.key)))||(!a.yes&&!qF a.bl tj))=!eh a:=by
 unfold eh;cases a.yes<;>simp[bne]
def u0 (a:Answer):Bool:=if a.yes then fi a.bl&&(a.bl.key==a.key) else dp a.key&&qF a.bl tj
def w8 {l:List Int} (h:kf l=true) {n:Int} (hn:n∈l):dp n=true:=by
 obtain⟨k,hk,rfl⟩:=iq hn;have:=(jc.1 h) k hk;unfold eU at this;rw[Bool.and_eq_true] at this;exact this.1
def tk {s:cG} (h:dB s=true):1<=s.time:=by simp[dB,aS] at h;omega
def u6 (c:Call):Bool:=!(decide ((c.keys.length:Int)<1)||decide (3<(c.keys.length:Int))||((c.kind==1)&&((c.keys.length:Int) !=1)))&&kf c.keys
def MY (c:Call):(aS c.kind 1 2&&u6 c)=iz c:=by
 unfold u6 iz;cases kf c.keys
 .simp
 rw[Bool.eq_iff_iff];simp[aS];omega
def pD (c:Call) (time:Int):Bool:=!(!aS c.aB 0 1||!aS c.num 1 99||!aS c.kind 1 2||!u6 c||!aS c.val 0 9999||!ck c.ctx||!ck c.aO||!aS c.bw 1 time)
def ei (a b:cG):cG:=if dy a b then b else a
def Cr (a b x:cG):dy x (ei a b)=(dy x a||dy x b):=by
 obtain⟨t,s⟩:=a;obtain⟨t',s'⟩:=b;obtain⟨t2,s2⟩:=x;unfold ei;rw[Bool.eq_iff_iff];by_cases h:dy ⟨t,s⟩ ⟨t',s'⟩=true
 .rw[if_pos h];simp[dy] at h⊢;omega
 rw[if_neg h];simp[dy] at h⊢;omega
def lA (e:ao) (r:List ao) (key:Int):cB (e::r) key=if e.key=key then e.aw else cB r key:=by
 unfold cB;rw[List.find?_cons];by_cases h:e.key=key
 .rw[if_pos h,show oA key e=true by simp[oA,h]]
 rw[if_neg h,show oA key e=false by simp[oA,h]]
def w9:∀{l:List ao} {last key:Int},dL last l=true->key<=last->cB l key=⟨0,0⟩
 |[],_,_,_,_=>rfl
 |e::r,last,key,h,hk=>by
  have hh:=h;simp only[dL,Bool.and_eq_true,aS,decide_eq_true_eq] at h;rw[lA,if_neg om];exact w9 h.2 om
def MZ:∀{a b:List ao} {last:Int},dL last a=true->dL last b=true->(∀key,cB a key=cB b key)->a=b
 |[],[],_,_,_,_=>rfl
 |[],e::r,_,_,h,he=>by
  have:=he e.key;rw[lA,if_pos rfl] at this;simp only[dL,Bool.and_eq_true] at h;have h1:=tk h.1.2;rw[<-this] at h1;simp[cB] at h1
 |e::r,[],_,h,_,he=>by
  have:=he e.key;rw[lA,if_pos rfl] at this;simp only[dL,Bool.and_eq_true] at h;have h1:=tk h.1.2;rw[this] at h1;simp[cB] at h1
 |e::r,e'::r',last,h,h',he=>by
  have g:=h;have g':=h';simp only[dL,Bool.and_eq_true] at h h';have bH:∀{e e':ao} {r r':List ao},dB e.aw=true->dL e'.key r'=true->(∀key,cB (e::r) key=cB (e'::r') key)->¬e.key<e'.key:=λ{e e' r r'} U hr he bW=>by
   have:=he e.key;rw[lA,if_pos rfl,lA,if_neg om,w9 hr om] at this;have h1:=tk U;rw[this] at h1;simp at h1
  have hk:e.key=e'.key:=by
   have h1:=bH h.1.2 h'.2 he;have h2:=bH h'.1.2 h.2 λkey=>(he key).symm;omega
  have bJ:e.aw=e'.aw:=by
   have:=he e.key;rwa[lA,if_pos rfl,lA,if_pos hk.symm] at this
  have hr:r=r':=by
   rw[<-hk] at h';refine MZ h.2 h'.2 λkey=>?_;have:=he key;rw[lA,lA,<-hk] at this;by_cases cV:e.key=key
   .rw[w9 h.2 om,w9 h'.2 om]
   rwa[if_neg cV,if_neg cV] at this
  obtain⟨k1,s1⟩:=e;obtain⟨k2,s2⟩:=e';simp at hk bJ;rw[hk,bJ,hr]
def tl {a:Answer} (h:eh a=true) (hy:a.yes=true):fi a.bl=true/\a.bl.key=a.key:=by
 unfold eh at h;rw[hy] at h;simpa using h
def Cs {a:Answer} (h:eh a=true) (hy:a.yes=false):a.bl=tj:=by
 unfold eh at h;rw[hy] at h;simpa[qF] using h
def r4 {a:Answer} (h:eh a=true):ck a.bl.aK=true:=by
 cases hy:a.yes
 .rw[Cs h hy];rfl
 exact(kT (tl h hy).1).2.2
def nO (s:Server) (l:List aJ) (i:Nat):Bool:=eY s (ae l i).key !=0
def u7 (s:Server) (i:Nat):Bool:=!((decide (0<=placeOf s.ar (ae s.waits i).bD))||(cv (ae s.waits i).aw.site==cv s.site))
def qG (s:Server) (i:Nat):Bool:=decide (0<=placeOf s.ar (ae s.aE i))
def M0 (x:ct):(!aS x.bX 0 9999||!aS x.fg 0 2||((x.fg !=0)&&decide (x.bX<1)))=!pg x:=by
 rw[<-Gu];by_cases h:aS x.bX 0 9999=true
 .have e:decide (x.bX<1)=(x.bX==0):=by
   simp[aS] at h;rw[Bool.eq_iff_iff];simp;omega
  rw[e]
 simp[h]
def Wr (s:Server) (i:Nat):qu s i=(nO s s.waits i&&u7 s i):=by
 unfold qu rJ nO u7;have e:decide (placeOf s.ar (ae s.waits i).bD<0)=!decide (0<=placeOf s.ar (ae s.waits i).bD):=by rw[Bool.eq_iff_iff];simp
 rw[e];cases(eY s (ae s.waits i).key !=0)<;>cases decide (0<=placeOf s.ar (ae s.waits i).bD)<;>simp[bne]
def Ws {n:Nat} {f g:Nat->Bool}:dh n (λi=>f i&&g i)=(dh n f&&dh n g):=by
 rw[Bool.eq_iff_iff,Bool.and_eq_true,jc,jc,jc];exact⟨λh=>⟨λi hi=>(Bool.and_eq_true_iff.1 (h i hi)).1,λi hi=>(Bool.and_eq_true_iff.1 (h i hi)).2⟩,λh i hi=>Bool.and_eq_true_iff.2 ⟨h.1 i hi,h.2 i hi⟩⟩
def Wt (s:Server):wJ s.ar s.aE=dh s.aE.length (qG s):=by
 unfold wJ hasB;by_cases h:0<=dK (missing s.ar) s.aE
 .obtain⟨k,hk,hm⟩:=FT h;have:qG s k=false:=by
   simp only[missing,decide_eq_true_eq] at hm;simp only[qG,decide_eq_false_iff_not];omega
  rw[fI hk this];simp[h]
 have aT:=BS (p:=missing s.ar) (l:=s.aE) om;have:dh s.aE.length (qG s)=true:=by
  rw[jc];intro i hi;have:=aT i hi;simp only[missing,decide_eq_false_iff_not] at this;simp only[qG,decide_eq_true_eq];omega
 rw[this];simp[h]
def zY (s:Server):gN s=(s0 s&&dh s.aQ.length (qt s)&&(dh s.ar.length (nO s s.ar)&&dh s.waits.length (nO s s.waits))&&dh s.waits.length (u7 s)&&dh s.aE.length (qG s)):=by
 unfold gN;have e:dh s.waits.length (qu s)=(dh s.waits.length (nO s s.waits)&&dh s.waits.length (u7 s)):=by
  rw[<-Ws];exact yD rfl λi _=>Wr s i
 have e2:dh s.ar.length (rI s)=dh s.ar.length (nO s s.ar):=rfl;rw[e,e2,Wt];cases s0 s<;>cases dh s.aQ.length (qt s)<;>cases dh s.ar.length (nO s s.ar)<;>cases dh s.waits.length (nO s s.waits)<;>simp
def jm (l:List aJ) (d:ao):Option aJ:=if 0<=placeOf l d then some (ae l (placeOf l d).toNat) else none
section
variable {l:List aJ} {v:aJ} {k:Nat} {out:List aJ} {done:Bool}
def ma.before (hp:ma l v k false out) (h:k<l.length) (he:gx v (ae l k)=true):ma l v (k+1) true ((out++[v])++[ae l k]):=by
 refine⟨h,?_,by have:=hp.len;simp at this⊢;omega⟩;have:=hp.eq;rw[lh h] at this;simp only[pj,if_pos he] at this;rw[this];simp
def ma.step (hp:ma l v k done out) (h:k<l.length) (he:done=true\/gx v (ae l k)=false):ma l v (k+1) done (out++[ae l k]):=by
 refine⟨h,?_,by have:=hp.len;simp;omega⟩;have:=hp.eq;cases done
 .rw[lh h] at this;have he:gx v (ae l k)=false:=he.resolve_left be;simp only[pj,he] at this;rw[this];simp
 simp only[if_true] at this⊢;rw[this,lh h];simp
def ma.rY (hp:ma l v k true out) (h:l.length<=k):out=pj l v:=by
 have:=hp.eq;rw[List.drop_eq_nil_of_le h] at this;simpa using this.symm
def ma.rZ (hp:ma l v k false out) (h:l.length<=k):out++[v]=pj l v:=by
 have:=hp.eq;rw[List.drop_eq_nil_of_le h] at this;simpa[pj] using this.symm
end
def r5 (key:Int) (v:aJ):Bool:=v.key==key
def gD (l:List aJ) (key:Int):Option aJ:=l.reverse.find? (r5 key)
def M1 {l:List aJ} {key:Int} {k:Nat} (hk:k<l.length) (h:∀i,k<i->i<l.length->r5 key (ae l i)=false) (hp:r5 key (ae l k)=true):gD l key=some (ae l k):=by
 unfold gD;rw[List.find?_eq_some_iff_getElem];refine⟨hp,l.length-1-k,by simp;omega,?_,λj hj=>?_⟩
 .rw[List.getElem_reverse];simp[ae];rw[List.getElem?_eq_getElem hk];simp;congr 1;omega
 rw[List.getElem_reverse];have:=h (l.length-1-j) om om;have e:l[l.length-1-j]'om=ae l (l.length-1-j):=by unfold ae;rw[List.getD_eq_getElem?_getD,List.getElem?_eq_getElem om];rfl
 rw[e,this];rfl
def M2 {l:List aJ} {key:Int} (h:∀i,i<l.length->r5 key (ae l i)=false):gD l key=none:=by
 unfold gD;rw[List.find?_eq_none];intro x hx;obtain⟨k,hk,rfl⟩:=iq (List.mem_reverse.1 hx);rw[h k hk];simp
def Gw {l:List aJ} {key:Int} {v:aJ} (h:gD l key=some v):v∈l/\v.key=key:=by
 unfold gD at h;have h1:=List.mem_of_find?_eq_some h;have h2:=List.find?_some h;exact⟨List.mem_reverse.1 h1,by simpa[r5] using h2⟩
def eN (l:List ao) (d:ao):List ao:=if 0<=gB l d then l else jS l d
section
variable {l:List ao} {v:ao} {k:Nat} {out:List ao} {done:Bool}
def mb.before (hp:mb l v k false out) (h:k<l.length) (he:ec v (ae l k)=true):mb l v (k+1) true ((out++[v])++[ae l k]):=by
 refine⟨h,?_,by have:=hp.len;simp at this⊢;omega⟩;have:=hp.eq;rw[lh h] at this;simp only[jS,if_pos he] at this;rw[this];simp
def mb.step (hp:mb l v k done out) (h:k<l.length) (he:done=true\/ec v (ae l k)=false):mb l v (k+1) done (out++[ae l k]):=by
 refine⟨h,?_,by have:=hp.len;simp;omega⟩;have:=hp.eq;cases done
 .rw[lh h] at this;have he:ec v (ae l k)=false:=he.resolve_left be;simp only[jS,he] at this;rw[this];simp
 simp only[if_true] at this⊢;rw[this,lh h];simp
def mb.rY (hp:mb l v k true out) (h:l.length<=k):out=jS l v:=by
 have:=hp.eq;rw[List.drop_eq_nil_of_le h] at this;simpa using this.symm
def mb.rZ (hp:mb l v k false out) (h:l.length<=k):out++[v]=jS l v:=by
 have:=hp.eq;rw[List.drop_eq_nil_of_le h] at this;simpa[jS] using this.symm
end
def fH (site:Int):Int:=if site%2=0 then site+1 else site-1
def jC (s:Server) (m:az):List cG:=m.aK.map ao.aw++(match gD s.ar m.key with|some v=>[v.aw]|none=>[])
def tm (s:Server) (m:az):Bool:=de m.bj&&(cv m.bj !=cv s.site)&&decide (m.ar.length=1)&&fR s (ae m.ar 0).key&&(cv (ae m.ar 0).aw.site !=cv s.site)
def oB (s:Server) (m:az):Server:=
 if de m.bj&&(cv m.bj !=cv s.site)&&decide (0<=gB s.aE ⟨m.key,m.aw⟩)&&(eY s m.key==1) then
  {s with aE:=s.aE.take (gB s.aE ⟨m.key,m.aw⟩).toNat++s.aE.drop ((gB s.aE ⟨m.key,m.aw⟩).toNat+1)}
 else s
def oC (s:Server) (m:az):Server:=
 if(m.bj==fH s.site)&&g8 s ⟨m.key,m.aw⟩&&decide (s.bq.length<80) then g9 {s with bq:=eN s.bq ⟨m.key,m.aw⟩} else s
def r6 (s:Server) (m:az):Bool:=
 let x:=eJ s m.slot
 decide (x.ar.length+m.ar.length<=80)&&decide (x.waits.length+m.waits.length<=80)&&decide (x.aE.length+m.aE.length<=80)
def oD (s:Server) (m:az):Server:=
 if(m.bj==fH s.site)&&((ae s.aQ m.slot.toNat).fg==2)&&((ae s.aQ m.slot.toNat).bX==m.bX) then g9 (s7 s m) else s
def nP (r7:List ao) (a:Answer):List ao:=if dy a.bl.aw (cB r7 a.key) then[⟨a.key,cB r7 a.key⟩] else[]
def dZ (m:az):Answer:=⟨m.key,m.yes,if m.yes then ae m.ar 0 else tj⟩
def tn (aB:Int) (q:Call):Bool:=(q.aB==aB)&&(q.end_==0)&&!q.over
def cI (calls:List Call) (aB:Int):Int:=dK (tn aB) calls
def Gx (l:List ao) (d:ao) (hl:ck l=true):
 Fn prog 192 [bm l,d.av] (bm (gT l d)):=by
 refine Fn.go 53 func192 ntmps192 (λW I a U=>?_);have zZ:=gU hl;have U:=U.en (sz:=3) 125;refine fW λI a w U=>?_;refine St.lo (σ:=Nat×Bool×List ao×Value) (run 2 5 (8::(run 35 11 []))) ⟨λ⟨k,done,out,v⟩=>[(11,AV.int k),(6,AV.bool done),(5,AV.val v)],λ⟨k,done,out,v⟩=>[Own.row v 125 3 (out.map ao.cells)],λ⟨k,done,out,v⟩=>jR l d k done out⟩ (λ⟨k,done,out,v⟩=>l.length-k) (0,false,[],.slice none 0 0) U ?aD ?bh;case aD=>exact jR.zero l d
 rintro⟨k,done,out,v⟩ I a w aj U;have hp:jR l d k done out:=aj;have hk:=hp.hk;have jM:=hp.len;have qc:done.toNat<=1:=by cases done<;>simp
 dsimp only at U;refine al λI a w U=>?_;refine cz (λab=>?_) λab=>?_
 .refine aA λI a w U=>?_;refine U.alloc rfl cM fE λb8 I a w U=>?_;refine fW λI a w U=>?_;refine cz (λah=>?_) λah=>?_
  .refine aR λI a w U=>?_;refine U.o (.c2 (FQ ..)) λU=>?_;refine zt ?_;refine cz (λai=>?_) λai=>?_
   .refine bV λI a w U=>?_;refine U.o (.li [d.cells] gM (.u .nil)) λU=>?_;refine U.ap 0 λtp a w U=>?_;rw[cA] at U;refine aI λI a w U=>?_;have U:=U.drop 1;exact U.ag (k+1,true,out++[d],tp) (by have h:=(hp.same hl ab ah).2;rw[ai,if_pos rfl] at h;exact h)
   refine aV λI a w U=>?_;refine U.o (.li [(ae l k).cells] gM (.u .nil)) λU=>?_;refine U.ap 0 λtp a w U=>?_;rw[cA] at U;refine aI λI a w U=>?_;have U:=U.drop 1;exact U.ag (k+1,true,out++[ae l k],tp) (by have h:=(hp.same hl ab ah).2;rw[ai] at h;exact h)
  refine n4 λI a w U=>?_;refine cz (λaG=>?_) λaG=>?_
  .refine aA λI a w U=>?_;refine U.o (.li [d.cells] gM (.u .nil)) λU=>?_;refine U.ap 0 λM3 a w U=>?_;rw[cA] at U;refine aR λI a w U=>?_;refine U.o (.li [(ae l k).cells] gM (.u .nil)) λU=>?_;refine U.ap 0 λtp a w U=>?_;rw[cA] at U;refine aI λI a w U=>?_;have U:=U.drop 1;exact U.ag (k+1,true,(out++[d])++[ae l k],tp) (by obtain⟨h1,h2⟩:=aG;subst h2;exact hp.before hl ab h1)
  refine aA λI a w U=>?_;refine U.o (.li [(ae l k).cells] gM (.u .nil)) λU=>?_;refine U.ap 0 λtp a w U=>?_;rw[cA] at U;refine aI λI a w U=>?_;have U:=U.drop 1;exact U.ag (k+1,done,out++[ae l k],tp) (hp.step ab ah λhd=>by rcases aG with h|h;exact h;rw[hd] at h;cases h)
 refine zt ?_;refine ax λI a w U=>?_;refine cz (λaL=>?_) λaL=>?_
 .refine aA λI a w U=>?_;refine U.o (.li [d.cells] gM (.u .nil)) λU=>?_;refine U.ap 0 λv51 a w U=>?_;rw[cA] at U;refine aI λI a w U=>?_;obtain⟨I,U⟩:=U.fr 0 4;refine U.rt ?_;exact congrArg (AV.rows 3) (by subst aL;exact hp.rZ om▸rfl)
 refine ax λI a w U=>?_;obtain⟨I,U⟩:=U.fr 0 4;refine U.rt ?_;exact congrArg (AV.rows 3) (by subst aL;rw[hp.rY om])
def Wu (l:List ao) (key:Int):
 Fn prog 189 [bm l,AV.int key] ((cB l key).av):=by
 refine Fn.go 21 func189 ntmps189 (λW I a U=>?_);have hle:=U.dD (t:=0) rfl;refine sr<|U.alloc rfl jg iI λb4 I a w U=>?_;refine aI λI a w U=>?_;refine St.lo (σ:=Nat) (6::(run 11 9 [])) ⟨λk=>[(9,AV.int k)],λk=>[Own.box b4 42 [AV.val (.int .i64 0),AV.val (.int .i64 0)]],λk=>k<=l.length/\∀i,i<k->oA key (ae l i)=false⟩ (λk=>l.length-k) 0 U ?aD ?bh;case aD=>exact⟨Nat.zero_le _,λi hi=>by omega⟩
 rintro k I a w aj U;obtain⟨hk,aT⟩:=aj;refine al λI a w U=>?_;refine cz (λab=>?_) λab=>?_
 .refine aA λI a w U=>?_;refine U.alloc rfl cM fE λb6 I a w U=>?_;refine al λI a w U=>?_;obtain⟨I,U⟩:=U.fb 1 6;refine aU λI a w U=>?_;refine U.cd (λah=>?_) λah=>?_
  .refine aI λI a w U=>?_;refine U.ret rfl (.cons (.sx 0) aZ.nil) ?_;exact(by rw[MU ab aT ah];rfl)
  refine ax λI a w U=>?_;have U:=U.drop 1;exact U.ag (k+1) (⟨ab,λi h1=>by rcases Nat.lt_succ_iff_lt_or_eq.1 h1 with h|h;exact aT i h;rw[h];exact ah⟩)
 refine zt ?_;refine U.o (.bd iI bf.nil) λU=>?_;refine al λI a w U=>?_;refine U.ret rfl (.cons (.sx 0) aZ.nil) ?_;exact(by rw[MV om aT];rfl)
def tq (u v:aJ):Bool:=!((u.key !=v.key)||([u.aw.time,u.aw.site] !=[v.aw.time,v.aw.site])||(u.val !=v.val)||(u.aB !=v.aB)||(u.call !=v.call)||((u.aK.length:Int) !=v.aK.length))
def Ct (u v:aJ) (i:Nat):Bool:=decide (ae u.aK i=ae v.aK i)
def Wv {α:Type} [Inhabited α] {l m:List α} (h:l.length=m.length) (he:∀i,i<l.length->ae l i=ae m i):l=m:=by
 apply List.ext_getElem h;intro i h1 h2;have:=he i h1;simpa[ae,h1,h2] using this
def Gy (u v:aJ):qF u v=(tq u v&&dh u.aK.length (Ct u v)):=by
 rw[Bool.eq_iff_iff,Bool.and_eq_true,jc];obtain⟨a1,⟨a2,a3⟩,a4,a5,a6,a7⟩:=u;obtain⟨b1,⟨b2,b3⟩,b4,b5,b6,b7⟩:=v;simp only[qF,tq,Ct,decide_eq_true_eq];constructor
 .intro h;simp at h;obtain⟨rfl,⟨rfl,rfl⟩,rfl,rfl,rfl,rfl⟩:=h;simp
 rintro⟨h1,h2⟩;simp at h1 h2;have:a7=b7:=Wv om h2;simp[this];omega
def M4 (q:Call):(((q.kind==1)&&decide (0<(q.au.length:Int)+q.aO.length))||(!(q.kind==1)&&((q.val !=0)||!eH q.aw)))=!w7 q:=by simp[w7]
def Ww (x:Answer) (h:x.yes=false):(dp x.key&&(x.bl.key==0)&&(x.bl.val==0)&&(x.bl.aB==0)&&(x.bl.call==0)&&eH x.bl.aw&&((x.bl.aK.length:Int)==0))=u0 x:=by
 unfold u0;rw[h];obtain⟨k,y,⟨vk,⟨t,s⟩,vv,vc,vl,vd⟩⟩:=x;simp only[qF,tj,eH];rw[Bool.eq_iff_iff];simp;constructor
 .rintro⟨⟨⟨⟨⟨⟨h1,h2⟩,h3⟩,h4⟩,h5⟩,h6⟩,h7⟩;exact⟨h1,h2,h6,h3,h4,h5,h7⟩
 rintro⟨h1,h2,h6,h3,h4,h5,h7⟩;exact⟨⟨⟨⟨⟨⟨h1,h2⟩,h3⟩,h4⟩,h5⟩,h6⟩,h7⟩
def Gz {u v:aJ} (h:tq u v=true):u.aK.length=v.aK.length:=by
 simp only[tq,Bool.not_eq_true',Bool.or_eq_false_iff] at h;have:=h.2;simp at this;omega
def M5 {q:Call} {time:Int} (h:pD q time=true):1<=q.bw/\q.bw<=time/\q.aO.length<=6:=by
 simp only[pD,Bool.not_eq_true',Bool.or_eq_false_iff] at h;have h1:=h.2;have h2:=h.1.2;simp at h2;have:=gU h2;simp[aS] at h1;omega
def Cu:yP prog 162 3 3 (λx:Int=>Lit.int .i64 x) (λx:Int=>Value.int .i64 x) (λx=>.lit (.int .i64 x)) (λx=>-9223372036854775808<=x/\x<=9223372036854775807) 0:=R4 S8 sW sW λw=>cT.zero
def M6 {α:Type} [Inhabited α] {l:List α} {j k:Nat} (h:j<k):ae (l.take k) j=ae l j:=by
 unfold ae;simp[List.getD_eq_getElem?_getD,List.getElem?_take,h]
def Wx (n:Nat):decide ((n:Int)<=20)=decide (n<=20):=by rw[Bool.eq_iff_iff];simp;omega
def xa {l:List Answer} (h:∀a∈l,eh a=true) (k:Nat):∀a∈l.take k,eh a=true:=λa ha=>h a (List.mem_of_mem_take ha)
def u9 {q:Call} (h:iz q=true) (hk:q.kind=1):0<q.keys.length:=by
 unfold iz at h;rw[Bool.and_eq_true] at h;have:=h.2;simp[hk] at this;omega
def xb (n:Int) (hn:de n=true):
 Fn prog 313 [AV.int n] (AV.int (fH n)):=by
 refine Fn.go 10 func313 ntmps313 (λW I a U=>?_);have vI:0<=n/\n<=3:=by simpa[de,aS] using hn
 refine aA λI a w U=>?_;refine U.o (lZ .tt .c (λ_=>by omega)) λU=>?_;refine al λI a w U=>?_;refine U.cd (λab=>?_) λab=>?_
 .refine ry ?_;exact cj (by unfold fH;rw[if_pos (by simpa using ab)])
 refine ry ?_;exact cj (by unfold fH;rw[if_neg (by simpa using ab)])
def eI.gone {s:Server} (h:eI s) (m:az):eI (s7 s m):=(h.drop m.slot).UG (by show(s.aQ.set _ _).length=3;rw[List.length_set];exact h.aQ)
def oE {m:az} (h:bY m=true):(1<=m.kind/\m.kind<=10)/\l5 m.bj=true/\l5 m.to=true/\(0<=m.call/\m.call<=99)/\dp m.key=true/\kr m.aw=true/\(0<=m.val/\m.val<=9999)/\ck m.aK=true/\(0<=m.slot/\m.slot<=2)/\(0<=m.bX/\m.bX<=9999)/\cD m.ar=true/\cD m.waits=true/\fU m.aE=true:=by
 simp only[bY,Bool.and_eq_true,aS,decide_eq_true_eq] at h;obtain⟨⟨⟨⟨⟨⟨⟨⟨⟨⟨⟨⟨a1,a2⟩,a3⟩,a4⟩,a5⟩,a6⟩,a7⟩,a8⟩,a9⟩,nD⟩,rO⟩,z0⟩,z1⟩:=h;exact⟨a1,a2,a3,a4,a5,a6,a7,a8,a9,nD,rO,z0,z1⟩
def Cv {s:Server} {m:az} (h:tm s m=true):de m.bj=true/\cv m.bj≠cv s.site/\m.ar.length=1/\fR s (ae m.ar 0).key=true/\cv (ae m.ar 0).aw.site≠cv s.site:=by
 unfold tm at h;simp only[Bool.and_eq_true,decide_eq_true_eq,bne_iff_ne] at h;exact⟨h.1.1.1.1,h.1.1.1.2,h.1.1.2,h.1.2,h.2⟩
def Wy {s:Server} {m:az} (h:bE s):bE (oB s m):=by
 unfold oB;split
 .exact⟨h.site,h.aQ,h.ar,h.waits,B1 h.aE (zC _ _),h.bq,h.up,h.cX,h.here,h.oe,h.og,h.apart,λd hd=>h.oh d (F9 hd)⟩
 exact h
def M7 {l:List aJ} {d:ao} {v:aJ} (h:jm l d=some v):v∈l/\v.bD=d:=by
 unfold jm at h;split at h
 .rename_i hp;obtain⟨h1,h2⟩:=zm hp;cases h;exact⟨bK h1,h2⟩
 cases h
def tu {m:az} (h:bY m=true):0<=m.bj/\m.bj<=11/\0<=m.to/\m.to<=11:=by
 have p:=oE h;have h1:=p.2.1;have h2:=p.2.2.1;simp only[l5,de,aS,Bool.or_eq_true,Bool.and_eq_true,decide_eq_true_eq] at h1 h2;omega
def M8 {l:List ao} (h:ck l=true) {a b:ao} (ha:a∈l) (hb:b∈l) (he:a.key=b.key):a=b:=by
 obtain⟨i,hi,rfl⟩:=iq ha;obtain⟨j,hj,rfl⟩:=iq hb;rcases Nat.lt_trichotomy i j with bW|rfl|bW
 .have:=zX h bW hj;omega
 .rfl
 have:=zX h bW hi;omega
def Wz {s:cG} (h:dB s=true):eH s=false:=by
 have:=tk h;unfold eH;rw[Bool.and_eq_false_iff];left;simp;omega
def M9 (s:Server) (m:az):((m.bj !=fH s.site)||!g8 s ⟨m.key,m.aw⟩||decide (80<=(s.bq.length:Int)))=!((m.bj==fH s.site)&&g8 s ⟨m.key,m.aw⟩&&decide (s.bq.length<80)):=by
 have e:decide (80<=(s.bq.length:Int))=!decide (s.bq.length<80):=by rw[Bool.eq_iff_iff];simp;omega
 rw[e];simp[bne]
def Na (s:Server) (m:az):((m.bj !=fH s.site)||((ae s.aQ m.slot.toNat).fg !=2)||((ae s.aQ m.slot.toNat).bX !=m.bX))=
 !((m.bj==fH s.site)&&((ae s.aQ m.slot.toNat).fg==2)&&((ae s.aQ m.slot.toNat).bX==m.bX)):=by simp[bne]
def Nb (s:Server) (m:az):(!de m.bj||(cv m.bj==cv s.site)||((m.ar.length:Int) !=1)||!fR s (ae m.ar 0).key||(cv (ae m.ar 0).aw.site==cv s.site))=!tm s m:=by
 have e:((m.ar.length:Int) !=1)=!decide (m.ar.length=1):=by rw[Bool.eq_iff_iff];simp;omega
 unfold tm;rw[e];simp[bne]
def WA (v:Value) (l:List (List AV)) (i:Nat) (hi:i<l.length) (hl:l.length<=1048576) (dJ:∀r∈l,r.length=15):
 bG prog 234 [AV.val v,AV.int i,AV.int ((i:Int)+1)] [Own.row v 108 15 l] (λ_:Value=>True) (λu=>[Own.row u 108 15 (l.take i++l.drop (i+1))]) AV.val:=by
 refine bG.intro 33 func234 rfl ntmps234 rfl aq (λW I a U=>?_);obtain⟨q,cap,rfl,lW⟩:=U.yM 0 rfl;refine df λI a w U=>?_;refine U.o (K3 (lo:=i) (hi:=i+1) (mx:=l.length) dC cH .tt .tt .tt .tt rfl om rfl om om om) λU=>?_;refine aI λI a w U=>?_;refine U.cd (λab=>?_) λab=>?_
 .exfalso;simp only[B] at ab;omega;skip
 refine aI λI a w U=>?_;have bH:l≠[]:=by intro e;rw[e] at hi;simp at hi
 obtain⟨b,nc,he,nd,ng,l8,U⟩:=U.rk 0 rfl bH;simp only[Value.slice.injEq] at he;obtain⟨rfl,_,rfl⟩:=he;have hF:l.flatten.length=l.length*15:=fL dJ;have hB:(l.drop (i+1)).flatten.length=(l.length-(i+1))*15:=by rw[fL λr hr=>dJ r (List.mem_of_mem_drop hr),List.length_drop]
 have hlen:(l.take i++l.drop (i+1)).length=i+(l.length-(i+1)):=by simp;omega
 have mf:∀r∈(l.take i++l.drop (i+1)),r.length=15:=λr hr=>(List.mem_append.1 hr).elim (λh=>dJ r (List.mem_of_mem_take h)) λh=>dJ r (List.mem_of_mem_drop h);refine U.dt 6 ?_;simp only[TD];refine cy ?_;refine .o (rm (hi:=i) dC cH .tt .tt rfl om om) ?_;refine cy ?_;refine .o (FE (lo:=i+1) dC cH .tt .tt om om om) ?_;refine .nil ?_;intro I a w U;refine U.K5 (xs:=(l.drop (i+1)).flatten) 0 dC cH .tt .tt rfl (by rw[List.drop_append_of_le_length (by simp only[List.length_map,hF];exact Nat.mul_le_mul_right _ om),<-List.map_drop,Ga dJ];exact jP _ (List.length_map _)) hB om (by simp only[List.length_append,List.length_map,List.length_replicate,hF,hB];omega) rfl λU=>?_;refine bV λI a w U=>?_;refine U.o (K4 (lo:=i+(l.length-(i+1))) (hi:=l.length) dC cH .tt .tt .tt rfl rfl om om) λU=>?_;refine U.FG 0 dC cH rfl gj .tt om rfl (by rw[kx]<;>simp only[List.length_append,List.length_map,List.length_replicate,hF,hB]<;>omega) λU=>?_;have U:=U.rl (l:=(l.take i++l.drop (i+1))) (cap:=cap) 0 rfl (by rw[kx,kx]<;>(try rw[kx])<;>simp only[List.length_append,List.length_map,List.length_replicate,hF,hB]<;>omega) mf om om om (K9 dJ hi);rw[<-hlen] at U;refine ax λI a w U=>?_;refine U.cE _ [0] rfl (.cons (.t rfl) .nil) trivial rfl rfl
def Cw {s:Server} {m:az} (h:(gD s.ar m.key).isSome=true):m.aK.map ao.aw++[((gD s.ar m.key).getD default).aw]=jC s m:=by
 obtain⟨v,hv⟩:=Option.isSome_iff_exists.1 h;unfold jC;rw[hv];rfl
def Cx {s:Server} {m:az} (h:(gD s.ar m.key).isSome=false):m.aK.map ao.aw=jC s m:=by
 have e:gD s.ar m.key=none:=by cases hh:gD s.ar m.key;rfl;rw[hh] at h;cases h
 unfold jC;rw[e];simp
def Nc (s:Server) (m:az):((m.bj !=fH s.site)||decide (m.bX<1))=!((m.bj==fH s.site)&&decide (1<=m.bX)):=by
 have e:decide (m.bX<1)=!decide (1<=m.bX):=by rw[Bool.eq_iff_iff];simp
 rw[e];simp[bne]
def Nd {l ds:List ao} {k:Nat} (h:k<ds.length):(ds.take (k+1)).foldl eN l=eN ((ds.take k).foldl eN l) (ae ds k):=by
 rw[ep h,List.foldl_append];rfl
def WB (a b:Nat):decide ((a:Int)+b<=80)=decide (a+b<=80):=by rw[Bool.eq_iff_iff];simp;omega
def WC {s:Server} (h:s.ar.length<80):fo s=dK (lz s) s.waits:=by unfold fo;rw[if_pos h]
def GA {s:Server} {m:az} (h:(s.up&&bY m&&(m.to==s.site))=true):s.up=true/\bY m=true:=by
 rw[Bool.and_eq_true,Bool.and_eq_true] at h;exact h.1
def Nf {s:Server} (h:bE s) {d:ao} (hd:d∈s.aE):∃v,jm s.ar d=some v/\v.key=d.key/\v∈s.ar:=by
 obtain⟨x,hx,e⟩:=h.oh d hd;have hp:=F8.2 ⟨x,hx,e⟩;obtain⟨h1,h2⟩:=zm hp;refine⟨ae s.ar (placeOf s.ar d).toNat,by unfold jm;rw[if_pos hp],congrArg ao.key h2,bK h1⟩
def Ng {s:Server} {m:az} (ho:(de m.bj&&(cv m.bj !=cv s.site))=true):(((m.ar.length:Int) !=1)||!fR s (ae m.ar 0).key||!(cv (ae m.ar 0).aw.site !=cv s.site))=!tm s m:=by
 have e:((m.ar.length:Int) !=1)=!decide (m.ar.length=1):=by rw[Bool.eq_iff_iff];simp;omega
 unfold tm;rw[e,ho];simp
def WD {l:List aJ} {d:ao} {v:aJ} (h:jm l d=some v):0<=placeOf l d/\placeOf l d<l.length/\ae l (placeOf l d).toNat=v:=by
 unfold jm at h;split at h
 .rename_i hp;have:=(zm hp).1;exact⟨hp,by omega,Option.some.inj h⟩
 cases h
def Call.WE (q:Call) (g:Value):AV:=.agg [AV.int q.aB,AV.int q.num,AV.int q.kind,fM q.keys,AV.int q.val,bm q.ctx,AV.int q.bw,AV.int q.end_,AV.bool q.over,AV.int q.aw.time,AV.int q.aw.site,.val g,bm q.aO]
def eK {α:Type} (f:α->Nat) (l:List α):Nat:=(l.map f).sum
def kg {α:Type} [Inhabited α] {f:α->Nat} {l:List α} {k:Nat} (h:k<l.length):eK f (l.take (k+1))=eK f (l.take k)+f (ae l k):=by
 unfold eK;rw[ep h,List.map_append,List.sum_append];simp
def tv {α:Type} {f:α->Nat}:∀(l:List α) (k:Nat),eK f (l.take k)<=eK f l
 |[],k=>by simp[eK]
 |x::l,0=>by simp[eK]
 |x::l,k+1=>by have:=tv (f:=f) l k;simp[eK] at*;omega
def va {α:Type} [Inhabited α] {f:α->Nat} {l:List α} {k:Nat} (h:k<l.length):f (ae l k)<=eK f l:=by
 have:=kg (f:=f) h;have h2:=tv (f:=f) l (k+1);omega
def z3 (l:List Int):Nat:=l.length
def z4 (l:List ct):Nat:=l.length
def partOf {α:Type} (f:α->List AV) (z:List AV) (l:List α) (k:Nat):List (List AV):=(l.take k).map f++List.replicate (l.length-k) z
section
variable {α:Type} {f:α->List AV} {z:List AV} {l:List α} {k:Nat}
def Cy (h:k<=l.length):(partOf f z l k).length=l.length:=by simp[partOf];omega
def Cz:partOf f z l 0=List.replicate l.length z:=by simp[partOf]
def CA (h:l.length<=k):partOf f z l k=l.map f:=by
 unfold partOf;rw[List.take_of_length_le h,show l.length-k=0 from by omega];simp
def CB (h:k<l.length):(partOf f z l k)[k]?=some z:=by
 unfold partOf;have e:((l.take k).map f).length=k:=by simp;omega
 rw[List.getElem?_append_right om,e,Nat.sub_self,List.getElem?_replicate,if_pos om]
def CC [Inhabited α] (h:k<l.length):(partOf f z l k).set k (f (ae l k))=partOf f z l (k+1):=by
 unfold partOf;have e:((l.take k).map f).length=k:=by simp;omega
 rw[List.set_append_right _ _ om,e,Nat.sub_self,ep h,List.map_append,show l.length-k=(l.length-(k+1))+1 from by omega,List.replicate_succ];simp
end
def CD (x:cG):
 Fn prog 263 [x.av] (x.av):=by
 refine Fn.go 11 func263 ntmps263 (λW I a U=>?_);refine aX λI a w U=>?_;refine U.alloc rfl jg iI λb2 I a w U=>nn<|sr<|U.alloc rfl jg iI λb3 I a w U=>?_;refine n4 λI a w U=>?_;refine U.ret rfl (.cons (.sx 0) aZ.nil) ?_;rfl
def WG (x:ao):
 Fn prog 266 [x.av] (x.av):=by
 refine Fn.go 12 func266 ntmps266 (λW I a U=>?_);refine aX λI a w U=>?_;refine U.alloc rfl cM fE λb2 I a w U=>nn<|sr<|U.alloc rfl cM fE λb3 I a w U=>?_;refine df λI a w U=>?_;refine U.o (.c1 (CD _)) λU=>U.o .fv λU=>U.mD 1 jg .tt .tt rfl rfl rfl λa w U=>?_;refine ax λI a w U=>?_;refine U.ret rfl (.cons (.sx 0) aZ.nil) ?_;rfl
def r8 (k:Nat) (l:List (ao)) (hb:(aN iJ k l).2<=1152921504606846976):
 Fn prog 117 [bm (aN iJ k l).1,AV.int (k:Nat)] (AV.int ((aN iJ k l).2:Nat)):=by
 refine Fn.go 42 func117 ntmps117 (λW I a U=>?_);have hl:k+l.length<=(aN iJ k l).2:=lu (f:=iJ) (c:=λ_=>3) (λ_ _=>rfl) (λ_=>by decide);have dJ:(aN iJ k l).1.length=l.length:=fJ;refine ax λI a w U=>?_;refine St.lo (σ:=Nat) (1::(run 37 4 [])) ⟨λi=>[(5,AV.int i),(1,AV.int ((aN iJ k (l.take i)).2:Nat))],λi=>[],λi=>i<=l.length⟩ (λi=>l.length-i) 0 U ?aD ?bh;case aD=>exact Nat.zero_le _
 rintro i I a w aj U;have kU:i<=l.length:=aj;dsimp only at U;refine aU λI a w U=>?_;refine U.cd (λab=>?_) λab=>?_
 .simp only[B,fJ] at ab;refine wp_skip<|ba<|wp_seq<|wp_block<|wp_seq<|wp_seq ?_;obtain⟨t,hx⟩:=get_some ab;generalize cV:(aN iJ k (l.take i)).2=kk at U;obtain⟨fy,fk⟩:=kb (f:=iJ) (c:=λ_=>3) (λ_ _=>rfl) hx cV;have he:=rG hx cV;refine fW λI a w U=>?_;refine U.cd (λah=>?_) λah=>?_
  .exfalso;rw[he] at ah;first|(simp only[B,iJ,not_true_eq_false] at ah;done)|(simp only[B,iJ] at ah;omega)|(simp[iJ,dU] at ah)
   skip
  refine aA λI a w U=>?_;rw[show((kk:Nat):Int)+1=((kk+1:Nat):Int) from rfl] at U;refine iG λI a w U=>?_;refine U.cd (λai=>?_) λai=>?_
  .exfalso;rw[he] at ai;first|(simp only[B,iJ,not_true_eq_false] at ai;done)|(simp only[B,iJ] at ai;omega)|(simp[iJ,dU] at ai)
   skip
  refine aA λI a w U=>?_;rw[show((kk+1:Nat):Int)+1=((kk+2:Nat):Int) from rfl] at U;refine iG λI a w U=>?_;refine U.cd (λaG=>?_) λaG=>?_
  .exfalso;rw[he] at aG;first|(simp only[B,iJ,not_true_eq_false] at aG;done)|(simp only[B,iJ] at aG;omega)|(simp[iJ,dU] at aG)
   skip
  refine aA λI a w U=>?_;rw[show((kk+2:Nat):Int)+1=((kk+3:Nat):Int) from rfl] at U;refine aU λI a w U=>?_;refine U.again (i+1) ?bM ?bN bF ?bO (by repeat(first|exact Env.le_rfl|refine Env.dj rfl ?_));case bM=>omega
  case bN=>show i+1<=_;omega
  case bO=>exact(Env.bt rfl bF (Env.bt rfl (by exact congrArg AV.int (by rw[fy];(try rfl))) Env.le_nil))
 simp only[B,fJ] at ab;refine zt ?_;refine cK ?_;rw[List.take_of_length_le om];rfl
def CE (k:Nat) (l:List (aJ)) (hb:(aN cx k l).2<=1152921504606846976):
 Fn prog 44 [cm (aN cx k l).1,AV.int (k:Nat)] (AV.int ((aN cx k l).2:Nat)):=by
 refine Fn.go 78 func44 ntmps44 (λW I a U=>?_);have hl:k+l.length<=(aN cx k l).2:=lu (f:=cx) (c:=jh) (za) (λt=>by simp only[jh];omega);have dJ:(aN cx k l).1.length=l.length:=fJ;refine ax λI a w U=>?_;refine St.lo (σ:=Nat) (1::(run 73 4 [])) ⟨λi=>[(5,AV.int i),(1,AV.int ((aN cx k (l.take i)).2:Nat))],λi=>[],λi=>i<=l.length⟩ (λi=>l.length-i) 0 U ?aD ?bh;case aD=>exact Nat.zero_le _
 rintro i I a w aj U;have kU:i<=l.length:=aj;dsimp only at U;refine aU λI a w U=>?_;refine U.cd (λab=>?_) λab=>?_
 .simp only[B,fJ] at ab;refine wp_skip<|ba<|wp_seq<|wp_block<|wp_seq<|wp_seq ?_;obtain⟨t,hx⟩:=get_some ab;generalize cV:(aN cx k (l.take i)).2=kk at U;obtain⟨fy,fk⟩:=kb (f:=cx) (c:=jh) (za) hx cV;have he:=rG hx cV;simp only[jh] at fk;refine fW λI a w U=>?_;refine U.cd (λah=>?_) λah=>?_
  .exfalso;rw[he] at ah;first|(simp only[B,cx,not_true_eq_false] at ah;done)|(simp only[B,cx] at ah;omega)|(simp[cx,dU] at ah)
   skip
  refine aA λI a w U=>?_;rw[show((kk:Nat):Int)+1=((kk+1:Nat):Int) from rfl] at U;refine iG λI a w U=>?_;refine U.cd (λai=>?_) λai=>?_
  .exfalso;rw[he] at ai;first|(simp only[B,cx,not_true_eq_false] at ai;done)|(simp only[B,cx] at ai;omega)|(simp[cx,dU] at ai)
   skip
  refine aA λI a w U=>?_;rw[show((kk+1:Nat):Int)+1=((kk+2:Nat):Int) from rfl] at U;refine iG λI a w U=>?_;refine U.cd (λaG=>?_) λaG=>?_
  .exfalso;rw[he] at aG;first|(simp only[B,cx,not_true_eq_false] at aG;done)|(simp only[B,cx] at aG;omega)|(simp[cx,dU] at aG)
   skip
  refine aA λI a w U=>?_;rw[show((kk+2:Nat):Int)+1=((kk+3:Nat):Int) from rfl] at U;refine et λI a w U=>?_;refine U.cd (λaL=>?_) λaL=>?_
  .exfalso;rw[he] at aL;first|(simp only[B,cx,not_true_eq_false] at aL;done)|(simp only[B,cx] at aL;omega)|(simp[cx,dU] at aL)
   skip
  refine aA λI a w U=>?_;rw[show((kk+3:Nat):Int)+1=((kk+4:Nat):Int) from rfl] at U;refine et λI a w U=>?_;refine U.cd (λbc=>?_) λbc=>?_
  .exfalso;rw[he] at bc;first|(simp only[B,cx,not_true_eq_false] at bc;done)|(simp only[B,cx] at bc;omega)|(simp[cx,dU] at bc)
   skip
  refine aA λI a w U=>?_;rw[show((kk+4:Nat):Int)+1=((kk+5:Nat):Int) from rfl] at U;refine et λI a w U=>?_;refine U.cd (λaY=>?_) λaY=>?_
  .exfalso;rw[he] at aY;first|(simp only[B,cx,not_true_eq_false] at aY;done)|(simp only[B,cx] at aY;omega)|(simp[cx,dU] at aY)
   skip
  refine aA λI a w U=>?_;rw[show((kk+5:Nat):Int)+1=((kk+6:Nat):Int) from rfl] at U;refine fm λI a w U=>?_;refine U.o (bx (show Fn prog 117 [bm (ae (aN cx k l).1 i).aK,AV.int ((kk+6):Nat)] (AV.int ((cn (kk+6) t.aK).2:Nat)) from by have hq:(cn (kk+6) t.aK).2<=1152921504606846976:=(by rw[show(cn (kk+6) t.aK).2=_ from ez];omega);rw[he];exact r8 _ _ hq) (an .r (an (.t rfl) aH))) λU=>?_;generalize cY:(cn (kk+6) t.aK).2=k1 at U;have iw:k1=_:=cY.symm.trans (ez);refine aI λI a w U=>?_;refine U.cd (λbz=>?_) λbz=>?_
  .exfalso;simp only[B] at bz;omega;skip
  refine aI λI a w U=>?_;subst cY;refine U.again (i+1) ?bM ?bN bF ?bO (by repeat(first|exact Env.le_rfl|refine Env.dj rfl ?_));case bM=>omega
  case bN=>show i+1<=_;omega
  case bO=>exact(Env.bt rfl bF (Env.bt rfl (by exact congrArg AV.int (by rw[fy];(try rfl))) Env.le_nil))
 simp only[B,fJ] at ab;refine zt ?_;refine cK ?_;rw[List.take_of_length_le om];rfl
def WH (k:Nat) (l:List (az)) (hb:(aN dA k l).2<=1152921504606846976):
 Fn prog 120 [dW (aN dA k l).1,AV.int (k:Nat)] (AV.int ((aN dA k l).2:Nat)):=by
 refine Fn.go 152 func120 ntmps120 (λW I a U=>?_);have hl:k+l.length<=(aN dA k l).2:=lu (f:=dA) (c:=lM) (wv) (λt=>by simp only[lM];omega);have dJ:(aN dA k l).1.length=l.length:=fJ;refine ax λI a w U=>?_;refine St.lo (σ:=Nat) (1::(run 147 4 [])) ⟨λi=>[(5,AV.int i),(1,AV.int ((aN dA k (l.take i)).2:Nat))],λi=>[],λi=>i<=l.length⟩ (λi=>l.length-i) 0 U ?aD ?bh;case aD=>exact Nat.zero_le _
 rintro i I a w aj U;have kU:i<=l.length:=aj;dsimp only at U;refine aU λI a w U=>?_;refine U.cd (λab=>?_) λab=>?_
 .simp only[B,fJ] at ab;refine wp_skip<|ba<|wp_seq<|wp_block<|wp_seq<|wp_seq ?_;obtain⟨t,hx⟩:=get_some ab;generalize cV:(aN dA k (l.take i)).2=kk at U;obtain⟨fy,fk⟩:=kb (f:=dA) (c:=lM) (wv) hx cV;have he:=rG hx cV;simp only[lM] at fk;refine fW λI a w U=>?_;refine U.cd (λah=>?_) λah=>?_
  .exfalso;rw[he] at ah;first|(simp only[B,dA,not_true_eq_false] at ah;done)|(simp only[B,dA] at ah;omega)|(simp[dA,dU] at ah)
   skip
  refine aA λI a w U=>?_;rw[show((kk:Nat):Int)+1=((kk+1:Nat):Int) from rfl] at U;refine et λI a w U=>?_;refine U.cd (λai=>?_) λai=>?_
  .exfalso;rw[he] at ai;first|(simp only[B,dA,not_true_eq_false] at ai;done)|(simp only[B,dA] at ai;omega)|(simp[dA,dU] at ai)
   skip
  refine aA λI a w U=>?_;rw[show((kk+1:Nat):Int)+1=((kk+2:Nat):Int) from rfl] at U;refine et λI a w U=>?_;refine U.cd (λaG=>?_) λaG=>?_
  .exfalso;rw[he] at aG;first|(simp only[B,dA,not_true_eq_false] at aG;done)|(simp only[B,dA] at aG;omega)|(simp[dA,dU] at aG)
   skip
  refine aA λI a w U=>?_;rw[show((kk+2:Nat):Int)+1=((kk+3:Nat):Int) from rfl] at U;refine et λI a w U=>?_;refine U.cd (λaL=>?_) λaL=>?_
  .exfalso;rw[he] at aL;first|(simp only[B,dA,not_true_eq_false] at aL;done)|(simp only[B,dA] at aL;omega)|(simp[dA,dU] at aL)
   skip
  refine aA λI a w U=>?_;rw[show((kk+3:Nat):Int)+1=((kk+4:Nat):Int) from rfl] at U;refine et λI a w U=>?_;refine U.cd (λbc=>?_) λbc=>?_
  .exfalso;rw[he] at bc;first|(simp only[B,dA,not_true_eq_false] at bc;done)|(simp only[B,dA] at bc;omega)|(simp[dA,dU] at bc)
   skip
  refine aA λI a w U=>?_;rw[show((kk+4:Nat):Int)+1=((kk+5:Nat):Int) from rfl] at U;refine iG λI a w U=>?_;refine U.cd (λaY=>?_) λaY=>?_
  .exfalso;rw[he] at aY;first|(simp only[B,dA,not_true_eq_false] at aY;done)|(simp only[B,dA] at aY;omega)|(simp[dA,dU] at aY)
   skip
  refine aA λI a w U=>?_;rw[show((kk+5:Nat):Int)+1=((kk+6:Nat):Int) from rfl] at U;refine iG λI a w U=>?_;refine U.cd (λbz=>?_) λbz=>?_
  .exfalso;rw[he] at bz;first|(simp only[B,dA,not_true_eq_false] at bz;done)|(simp only[B,dA] at bz;omega)|(simp[dA,dU] at bz)
   skip
  refine aA λI a w U=>?_;rw[show((kk+6:Nat):Int)+1=((kk+7:Nat):Int) from rfl] at U;refine et λI a w U=>?_;refine U.cd (λbR=>?_) λbR=>?_
  .exfalso;rw[he] at bR;first|(simp only[B,dA,not_true_eq_false] at bR;done)|(simp only[B,dA] at bR;omega)|(simp[dA,dU] at bR)
   skip
  refine aA λI a w U=>?_;rw[show((kk+7:Nat):Int)+1=((kk+8:Nat):Int) from rfl] at U;refine fm λI a w U=>?_;refine U.o (lZ .tt .c (λ_=>by omega)) λU=>?_;refine U.o .sU λU=>U.o (o1 .tt .tt n7) λU=>?_;refine zt ?_;refine U.cd (λdO=>?_) λdO=>?_
  .exfalso;rw[he] at dO;first|(simp only[B,dA,not_true_eq_false] at dO;done)|(simp only[B,dA] at dO;omega)|(simp[dA,dU] at dO)
   skip
  refine aA λI a w U=>?_;rw[show((kk+8:Nat):Int)+1=((kk+9:Nat):Int) from rfl] at U;refine fm λI a w U=>?_;refine U.o (bx (show Fn prog 117 [bm (ae (aN dA k l).1 i).aK,AV.int ((kk+9):Nat)] (AV.int ((cn (kk+9) t.aK).2:Nat)) from by have hq:(cn (kk+9) t.aK).2<=1152921504606846976:=(by rw[show(cn (kk+9) t.aK).2=_ from ez];omega);rw[he];exact r8 _ _ hq) (an .r (an (.t rfl) aH))) λU=>?_;generalize cY:(cn (kk+9) t.aK).2=k1 at U;have iw:k1=_:=cY.symm.trans (ez);refine aI λI a w U=>?_;refine U.cd (λeE=>?_) λeE=>?_
  .exfalso;simp only[B] at eE;omega;skip
  refine fW λI a w U=>?_;refine U.cd (λjU=>?_) λjU=>?_
  .exfalso;subst cY;rw[he] at jU;first|(simp only[B,dA,not_true_eq_false] at jU;done)|(simp only[B,dA] at jU;omega)|(simp[dA,dU] at jU)
   skip
  refine aA λI a w U=>?_;rw[show((k1:Nat):Int)+1=((k1+1:Nat):Int) from rfl] at U;refine et λI a w U=>?_;refine U.cd (λmW=>?_) λmW=>?_
  .exfalso;subst cY;rw[he] at mW;first|(simp only[B,dA,not_true_eq_false] at mW;done)|(simp only[B,dA] at mW;omega)|(simp[dA,dU] at mW)
   skip
  refine aA λI a w U=>?_;rw[show((k1+1:Nat):Int)+1=((k1+2:Nat):Int) from rfl] at U;refine fm λI a w U=>?_;refine U.o (bx (show Fn prog 44 [cm (ae (aN dA k l).1 i).ar,AV.int ((k1+2):Nat)] (AV.int ((aN cx (k1+2) t.ar).2:Nat)) from by have hq:(aN cx (k1+2) t.ar).2<=1152921504606846976:=(by rw[show(aN cx (k1+2) t.ar).2=_ from pe];omega);subst cY;rw[he];exact CE _ _ hq) (an .r (an (.t rfl) aH))) λU=>?_;generalize dM:(aN cx (k1+2) t.ar).2=k2 at U;have rU:k2=_:=dM.symm.trans (pe);refine aI λI a w U=>?_;refine U.cd (λoj=>?_) λoj=>?_
  .exfalso;simp only[B] at oj;omega;skip
  refine df λI a w U=>?_;refine U.o (bx (show Fn prog 44 [cm (ae (aN dA k l).1 i).waits,AV.int ((k2):Nat)] (AV.int ((aN cx (k2) t.waits).2:Nat)) from by have hq:(aN cx (k2) t.waits).2<=1152921504606846976:=(by rw[show(aN cx (k2) t.waits).2=_ from pe];omega);subst cY;subst dM;rw[he];exact CE _ _ hq) (an .r (an (.t rfl) aH))) λU=>?_;generalize eZ:(aN cx (k2) t.waits).2=k3 at U;have uU:k3=_:=eZ.symm.trans (pe);refine aI λI a w U=>?_;refine U.cd (λpE=>?_) λpE=>?_
  .exfalso;simp only[B] at pE;omega;skip
  refine df λI a w U=>?_;refine U.o (bx (show Fn prog 117 [bm (ae (aN dA k l).1 i).aE,AV.int ((k3):Nat)] (AV.int ((cn (k3) t.aE).2:Nat)) from by have hq:(cn (k3) t.aE).2<=1152921504606846976:=(by rw[show(cn (k3) t.aE).2=_ from ez];omega);subst cY;subst dM;subst eZ;rw[he];exact r8 _ _ hq) (an .r (an (.t rfl) aH))) λU=>?_;generalize jk:(cn (k3) t.aE).2=k4 at U;have zM:k4=_:=jk.symm.trans (ez);refine aI λI a w U=>?_;refine U.cd (λNh=>?_) λNh=>?_
  .exfalso;simp only[B] at Nh;omega;skip
  refine aI λI a w U=>?_;subst cY;subst dM;subst eZ;subst jk;refine U.again (i+1) ?bM ?bN bF ?bO (by repeat(first|exact Env.le_rfl|refine Env.dj rfl ?_));case bM=>omega
  case bN=>show i+1<=_;omega
  case bO=>exact(Env.bt rfl bF (Env.bt rfl (by exact congrArg AV.int (by rw[fy];(try rfl))) Env.le_nil))
 simp only[B,fJ] at ab;refine zt ?_;refine cK ?_;rw[List.take_of_length_le om];rfl
def WI (k:Nat) (l:List (Answer)) (hb:(aN ey k l).2<=1152921504606846976):
 Fn prog 216 [j7 (aN ey k l).1,AV.int (k:Nat)] (AV.int ((aN ey k l).2:Nat)):=by
 refine Fn.go 105 func216 ntmps216 (λW I a U=>?_);have hl:k+l.length<=(aN ey k l).2:=lu (f:=ey) (c:=lr) (wx) (λt=>by simp only[lr,jh];omega);have dJ:(aN ey k l).1.length=l.length:=fJ;refine ax λI a w U=>?_;refine St.lo (σ:=Nat) (1::(run 100 4 [])) ⟨λi=>[(5,AV.int i),(1,AV.int ((aN ey k (l.take i)).2:Nat))],λi=>[],λi=>i<=l.length⟩ (λi=>l.length-i) 0 U ?aD ?bh;case aD=>exact Nat.zero_le _
 rintro i I a w aj U;have kU:i<=l.length:=aj;dsimp only at U;refine aU λI a w U=>?_;refine U.cd (λab=>?_) λab=>?_
 .simp only[B,fJ] at ab;refine wp_skip<|ba<|wp_seq<|wp_block<|wp_seq<|wp_seq ?_;obtain⟨t,hx⟩:=get_some ab;generalize cV:(aN ey k (l.take i)).2=kk at U;obtain⟨fy,fk⟩:=kb (f:=ey) (c:=lr) (wx) hx cV;have he:=rG hx cV;simp only[lr,jh] at fk;refine fW λI a w U=>?_;refine U.cd (λah=>?_) λah=>?_
  .exfalso;rw[he] at ah;first|(simp only[B,ey,cx,not_true_eq_false] at ah;done)|(simp only[B,ey,cx] at ah;omega)|(simp[ey,cx,dU] at ah)
   skip
  refine aA λI a w U=>?_;rw[show((kk:Nat):Int)+1=((kk+1:Nat):Int) from rfl] at U;refine fm λI a w U=>?_;refine U.o (lZ .tt .c (λ_=>by omega)) λU=>?_;refine U.o .sU λU=>U.o (o1 .tt .tt n7) λU=>?_;refine zt ?_;refine U.cd (λai=>?_) λai=>?_
  .exfalso;rw[he] at ai;first|(simp only[B,ey,cx,not_true_eq_false] at ai;done)|(simp only[B,ey,cx] at ai;omega)|(simp[ey,cx,dU] at ai)
   skip
  refine aA λI a w U=>?_;rw[show((kk+1:Nat):Int)+1=((kk+2:Nat):Int) from rfl] at U;refine iG λI a w U=>?_;refine U.cd (λaG=>?_) λaG=>?_
  .exfalso;rw[he] at aG;first|(simp only[B,ey,cx,not_true_eq_false] at aG;done)|(simp only[B,ey,cx] at aG;omega)|(simp[ey,cx,dU] at aG)
   skip
  refine aA λI a w U=>?_;rw[show((kk+2:Nat):Int)+1=((kk+3:Nat):Int) from rfl] at U;refine n4 λI a w U=>?_;refine U.cd (λaL=>?_) λaL=>?_
  .exfalso;rw[he] at aL;first|(simp only[B,ey,cx,not_true_eq_false] at aL;done)|(simp only[B,ey,cx] at aL;omega)|(simp[ey,cx,dU] at aL)
   skip
  refine aA λI a w U=>?_;rw[show((kk+3:Nat):Int)+1=((kk+4:Nat):Int) from rfl] at U;refine n4 λI a w U=>?_;refine U.cd (λbc=>?_) λbc=>?_
  .exfalso;rw[he] at bc;first|(simp only[B,ey,cx,not_true_eq_false] at bc;done)|(simp only[B,ey,cx] at bc;omega)|(simp[ey,cx,dU] at bc)
   skip
  refine aA λI a w U=>?_;rw[show((kk+4:Nat):Int)+1=((kk+5:Nat):Int) from rfl] at U;refine iG λI a w U=>?_;refine U.cd (λaY=>?_) λaY=>?_
  .exfalso;rw[he] at aY;first|(simp only[B,ey,cx,not_true_eq_false] at aY;done)|(simp only[B,ey,cx] at aY;omega)|(simp[ey,cx,dU] at aY)
   skip
  refine aA λI a w U=>?_;rw[show((kk+5:Nat):Int)+1=((kk+6:Nat):Int) from rfl] at U;refine iG λI a w U=>?_;refine U.cd (λbz=>?_) λbz=>?_
  .exfalso;rw[he] at bz;first|(simp only[B,ey,cx,not_true_eq_false] at bz;done)|(simp only[B,ey,cx] at bz;omega)|(simp[ey,cx,dU] at bz)
   skip
  refine aA λI a w U=>?_;rw[show((kk+6:Nat):Int)+1=((kk+7:Nat):Int) from rfl] at U;refine iG λI a w U=>?_;refine U.cd (λbR=>?_) λbR=>?_
  .exfalso;rw[he] at bR;first|(simp only[B,ey,cx,not_true_eq_false] at bR;done)|(simp only[B,ey,cx] at bR;omega)|(simp[ey,cx,dU] at bR)
   skip
  refine aA λI a w U=>?_;rw[show((kk+7:Nat):Int)+1=((kk+8:Nat):Int) from rfl] at U;refine lJ λI a w U=>?_;refine U.o (bx (show Fn prog 117 [bm (ae (aN ey k l).1 i).bl.aK,AV.int ((kk+8):Nat)] (AV.int ((cn (kk+8) t.bl.aK).2:Nat)) from by have hq:(cn (kk+8) t.bl.aK).2<=1152921504606846976:=(by rw[show(cn (kk+8) t.bl.aK).2=_ from ez];omega);rw[he];exact r8 _ _ hq) (an .r (an (.t rfl) aH))) λU=>?_;generalize cY:(cn (kk+8) t.bl.aK).2=k1 at U;have iw:k1=_:=cY.symm.trans (ez);refine aI λI a w U=>?_;refine U.cd (λdO=>?_) λdO=>?_
  .exfalso;simp only[B] at dO;omega;skip
  refine aI λI a w U=>?_;subst cY;refine U.again (i+1) ?bM ?bN bF ?bO (by repeat(first|exact Env.le_rfl|refine Env.dj rfl ?_));case bM=>omega
  case bN=>show i+1<=_;omega
  case bO=>exact(Env.bt rfl bF (Env.bt rfl (by exact congrArg AV.int (by rw[fy];(try rfl))) Env.le_nil))
 simp only[B,fJ] at ab;refine zt ?_;refine cK ?_;rw[List.take_of_length_le om];rfl
def WJ (k:Nat) (l:List (List ao)) (hb:(aN cn k l).2<=1152921504606846976) (hl:l.length<=1152921504606846976):
 Fn prog 122 [lG (aN cn k l).1,AV.int (k:Nat)] (AV.int ((aN cn k l).2:Nat)):=by
 refine Fn.go 21 func122 ntmps122 (λW I a U=>?_);have dJ:(aN cn k l).1.length=l.length:=fJ;refine ax λI a w U=>?_;refine St.lo (σ:=Nat) (1::(run 16 4 [])) ⟨λi=>[(5,AV.int i),(1,AV.int ((aN cn k (l.take i)).2:Nat))],λi=>[],λi=>i<=l.length⟩ (λi=>l.length-i) 0 U ?aD ?bh;case aD=>exact Nat.zero_le _
 rintro i I a w aj U;have kU:i<=l.length:=aj;dsimp only at U;refine aU λI a w U=>?_;refine U.cd (λab=>?_) λab=>?_
 .simp only[B,fJ] at ab;refine wp_skip<|ba<|wp_seq<|wp_block<|wp_seq ?_;obtain⟨t,hx⟩:=get_some ab;generalize cV:(aN cn k (l.take i)).2=kk at U;obtain⟨fy,fk⟩:=kb (f:=cn) (c:=λl=>3*l.length) (λ_ _=>ez) hx cV;have he:=rG hx cV;refine bV λI a w U=>?_;refine U.o (bx (show Fn prog 117 [bm (ae (aN cn k l).1 i),AV.int ((kk):Nat)] (AV.int ((cn (kk) t).2:Nat)) from by have hq:(cn (kk) t).2<=1152921504606846976:=(by rw[show(cn (kk) t).2=_ from ez];omega);rw[he];exact r8 _ _ hq) (an .r (an (.t rfl) aH))) λU=>?_;generalize cY:(cn (kk) t).2=k1 at U;have iw:k1=_:=cY.symm.trans (ez);refine aI λI a w U=>?_;refine U.cd (λah=>?_) λah=>?_
  .exfalso;simp only[B] at ah;omega;skip
  refine aI λI a w U=>?_;subst cY;refine U.again (i+1) ?bM ?bN bF ?bO (by repeat(first|exact Env.le_rfl|refine Env.dj rfl ?_));case bM=>omega
  case bN=>show i+1<=_;omega
  case bO=>exact(Env.bt rfl bF (Env.bt rfl (by exact congrArg AV.int (by rw[fy];(try rfl))) Env.le_nil))
 simp only[B,fJ] at ab;refine zt ?_;refine cK ?_;rw[List.take_of_length_le om];rfl
def WK (l:List (Int)):
 Fn prog 269 [fM l,fM l] (AV.bool true):=by
 refine Fn.go 26 func269 ntmps269 (λW I a U=>?_);have hle:=U.dD (t:=0) rfl;refine gy λI a w U=>?_;refine U.cd (λab=>?_) λab=>?_
 .exfalso;simp at ab;skip
 refine al λI a w U=>?_;refine St.lo (σ:=Nat) (run 2 4 (run 15 11 [])) ⟨λk=>[(5,AV.int k)],λk=>[],λk=>k<=l.length⟩ (λk=>l.length-k) 0 U ?aD ?bh;case aD=>exact Nat.zero_le _
 rintro k I a w aj U;have hk:k<=l.length:=aj;refine aU λI a w U=>?_;refine cz (λah=>?_) λah=>?_
 .refine al λI a w U=>?_;refine U.cd (λai=>?_) λai=>?_
  .exfalso;simp at ai;skip
  refine aI λI a w U=>?_;exact U.ag (k+1) (ah)
 refine zt ?_;refine aW ?_;rfl
def CF {H:Type} {enc:TypeId×Value->H} {W:World}:ly enc prog W cG.cells cG.Deep 199:=λn cs x h=>by
 obtain⟨xs,m,_,_,hl,hx,hf⟩:=DataW.trod_struct (show prog.underlying 199=some (.struct (prog.fieldsOf 199)) by kernel_rfl) h;rw[show prog.cellsOf 199=2 by kernel_rfl] at hl;obtain⟨y0,a0,b0⟩:=part (ft:=3) (off:=0) (s:=1) (i:=0) (eP (t:=3) aq) hx hf aq aq;obtain⟨y1,a1,b1⟩:=part (ft:=3) (off:=1) (s:=1) (i:=1) (eP (t:=3) aq) hx hf aq aq;exact⟨⟨y0,y1⟩,c5 a0 (c5 a1 (qn hl)),⟨b0,b1⟩⟩
def tw {H:Type} {enc:TypeId×Value->H} {W:World}:ly enc prog W ao.cells ao.Deep 249:=λn cs x h=>by
 obtain⟨xs,m,_,_,hl,hx,hf⟩:=DataW.trod_struct (show prog.underlying 249=some (.struct (prog.fieldsOf 249)) by kernel_rfl) h;rw[show prog.cellsOf 249=3 by kernel_rfl] at hl;obtain⟨y0,a0,b0⟩:=part (ft:=3) (off:=0) (s:=1) (i:=0) (eP (t:=3) aq) hx hf aq aq;obtain⟨y1,a1,b1⟩:=part (ft:=199) (off:=1) (s:=2) (i:=1) CF hx hf aq aq;exact⟨⟨y0,y1⟩,c5 a0 (c5 a1 (qn hl)),⟨b0,b1⟩⟩
def z5 {H:Type} {enc:TypeId×Value->H} {W:World}:ly enc prog W aJ.cells aJ.Deep 267:=λn cs x h=>by
 obtain⟨xs,m,_,_,hl,hx,hf⟩:=DataW.trod_struct (show prog.underlying 267=some (.struct (prog.fieldsOf 267)) by kernel_rfl) h;rw[show prog.cellsOf 267=7 by kernel_rfl] at hl;obtain⟨y0,a0,b0⟩:=part (ft:=3) (off:=0) (s:=1) (i:=0) (eP (t:=3) aq) hx hf aq aq;obtain⟨y1,a1,b1⟩:=part (ft:=199) (off:=1) (s:=2) (i:=1) CF hx hf aq aq;obtain⟨y2,a2,b2⟩:=part (ft:=3) (off:=3) (s:=1) (i:=2) (eP (t:=3) aq) hx hf aq aq;obtain⟨y3,a3,b3⟩:=part (ft:=3) (off:=4) (s:=1) (i:=3) (eP (t:=3) aq) hx hf aq aq;obtain⟨y4,a4,b4⟩:=part (ft:=3) (off:=5) (s:=1) (i:=4) (eP (t:=3) aq) hx hf aq aq;obtain⟨y5,a5,b5⟩:=part (ft:=195) (off:=6) (s:=1) (i:=5) (jI (t:=195) (sz:=3) aq aq bA (λ_=>rfl) tw) hx hf aq aq;exact⟨⟨y0,y1,y2,y3,y4,y5⟩,c5 a0 (c5 a1 (c5 a2 (c5 a3 (c5 a4 (c5 a5 (qn hl)))))),⟨b0,b1,b2,b3,b4,b5⟩⟩
def WL {H:Type} {enc:TypeId×Value->H} {W:World}:ly enc prog W az.cells az.Deep 201:=λn cs x h=>by
 obtain⟨xs,m,_,_,hl,hx,hf⟩:=DataW.trod_struct (show prog.underlying 201=some (.struct (prog.fieldsOf 201)) by kernel_rfl) h;rw[show prog.cellsOf 201=15 by kernel_rfl] at hl;obtain⟨y0,a0,b0⟩:=part (ft:=3) (off:=0) (s:=1) (i:=0) (eP (t:=3) aq) hx hf aq aq;obtain⟨y1,a1,b1⟩:=part (ft:=3) (off:=1) (s:=1) (i:=1) (eP (t:=3) aq) hx hf aq aq;obtain⟨y2,a2,b2⟩:=part (ft:=3) (off:=2) (s:=1) (i:=2) (eP (t:=3) aq) hx hf aq aq;obtain⟨y3,a3,b3⟩:=part (ft:=3) (off:=3) (s:=1) (i:=3) (eP (t:=3) aq) hx hf aq aq;obtain⟨y4,a4,b4⟩:=part (ft:=3) (off:=4) (s:=1) (i:=4) (eP (t:=3) aq) hx hf aq aq;obtain⟨y5,a5,b5⟩:=part (ft:=199) (off:=5) (s:=2) (i:=5) CF hx hf aq aq;obtain⟨y6,a6,b6⟩:=part (ft:=3) (off:=7) (s:=1) (i:=6) (eP (t:=3) aq) hx hf aq aq;obtain⟨y7,a7,b7⟩:=part (ft:=4) (off:=8) (s:=1) (i:=7) (BN (t:=4) aq) hx hf aq aq;obtain⟨y8,a8,b8⟩:=part (ft:=195) (off:=9) (s:=1) (i:=8) (jI (t:=195) (sz:=3) aq aq bA (λ_=>rfl) tw) hx hf aq aq;obtain⟨y9,a9,b9⟩:=part (ft:=3) (off:=10) (s:=1) (i:=9) (eP (t:=3) aq) hx hf aq aq;obtain⟨z6,nD,jD⟩:=part (ft:=3) (off:=11) (s:=1) (i:=10) (eP (t:=3) aq) hx hf aq aq;obtain⟨GB,rO,oF⟩:=part (ft:=194) (off:=12) (s:=1) (i:=11) (jI (t:=194) (sz:=7) aq aq bA (λ_=>rfl) z5) hx hf aq aq;obtain⟨GC,z0,r9⟩:=part (ft:=194) (off:=13) (s:=1) (i:=12) (jI (t:=194) (sz:=7) aq aq bA (λ_=>rfl) z5) hx hf aq aq;obtain⟨WM,z1,xc⟩:=part (ft:=195) (off:=14) (s:=1) (i:=13) (jI (t:=195) (sz:=3) aq aq bA (λ_=>rfl) tw) hx hf aq aq;exact⟨⟨y0,y1,y2,y3,y4,y5,y6,y7,y8,y9,z6,GB,GC,WM⟩,c5 a0 (c5 a1 (c5 a2 (c5 a3 (c5 a4 (c5 a5 (c5 a6 (c5 a7 (c5 a8 (c5 a9 (c5 nD (c5 rO (c5 z0 (c5 z1 (qn hl)))))))))))))),⟨b0,b1,b2,b3,b4,b5,b6,b7,b8,b9,jD,oF,r9,xc⟩⟩
def WN {H:Type} {enc:TypeId×Value->H} {W:World}:ly enc prog W Answer.cells Answer.Deep 270:=λn cs x h=>by
 obtain⟨xs,m,_,_,hl,hx,hf⟩:=DataW.trod_struct (show prog.underlying 270=some (.struct (prog.fieldsOf 270)) by kernel_rfl) h;rw[show prog.cellsOf 270=9 by kernel_rfl] at hl;obtain⟨y0,a0,b0⟩:=part (ft:=3) (off:=0) (s:=1) (i:=0) (eP (t:=3) aq) hx hf aq aq;obtain⟨y1,a1,b1⟩:=part (ft:=4) (off:=1) (s:=1) (i:=1) (BN (t:=4) aq) hx hf aq aq;obtain⟨y2,a2,b2⟩:=part (ft:=267) (off:=2) (s:=7) (i:=2) z5 hx hf aq aq;exact⟨⟨y0,y1,y2⟩,c5 a0 (c5 a1 (c5 a2 (qn hl))),⟨b0,b1,b2⟩⟩
def WO {H:Type} {enc:TypeId×Value->H} {W:World}:ly enc prog W Call.cells Call.Deep 205:=λn cs x h=>by
 obtain⟨xs,m,_,_,hl,hx,hf⟩:=DataW.trod_struct (show prog.underlying 205=some (.struct (prog.fieldsOf 205)) by kernel_rfl) h;rw[show prog.cellsOf 205=13 by kernel_rfl] at hl;obtain⟨y0,a0,b0⟩:=part (ft:=3) (off:=0) (s:=1) (i:=0) (eP (t:=3) aq) hx hf aq aq;obtain⟨y1,a1,b1⟩:=part (ft:=3) (off:=1) (s:=1) (i:=1) (eP (t:=3) aq) hx hf aq aq;obtain⟨y2,a2,b2⟩:=part (ft:=3) (off:=2) (s:=1) (i:=2) (eP (t:=3) aq) hx hf aq aq;obtain⟨y3,a3,b3⟩:=part (ft:=39) (off:=3) (s:=1) (i:=3) (jI (t:=39) (sz:=1) aq aq bA (λ_=>rfl) (eP (t:=3) aq)) hx hf aq aq;obtain⟨y4,a4,b4⟩:=part (ft:=3) (off:=4) (s:=1) (i:=4) (eP (t:=3) aq) hx hf aq aq;obtain⟨y5,a5,b5⟩:=part (ft:=195) (off:=5) (s:=1) (i:=5) (jI (t:=195) (sz:=3) aq aq bA (λ_=>rfl) tw) hx hf aq aq;obtain⟨y6,a6,b6⟩:=part (ft:=3) (off:=6) (s:=1) (i:=6) (eP (t:=3) aq) hx hf aq aq;obtain⟨y7,a7,b7⟩:=part (ft:=3) (off:=7) (s:=1) (i:=7) (eP (t:=3) aq) hx hf aq aq;obtain⟨y8,a8,b8⟩:=part (ft:=4) (off:=8) (s:=1) (i:=8) (BN (t:=4) aq) hx hf aq aq;obtain⟨y9,a9,b9⟩:=part (ft:=199) (off:=9) (s:=2) (i:=9) CF hx hf aq aq;obtain⟨z6,nD,jD⟩:=part (ft:=203) (off:=11) (s:=1) (i:=10) (jI (t:=203) (sz:=9) aq aq bA (λ_=>rfl) WN) hx hf aq aq;obtain⟨GB,rO,oF⟩:=part (ft:=195) (off:=12) (s:=1) (i:=11) (jI (t:=195) (sz:=3) aq aq bA (λ_=>rfl) tw) hx hf aq aq;exact⟨⟨y0,y1,y2,y3,y4,y5,y6,y7,y8,y9,z6,GB⟩,c5 a0 (c5 a1 (c5 a2 (c5 a3 (c5 a4 (c5 a5 (c5 a6 (c5 a7 (c5 a8 (c5 a9 (c5 nD (c5 rO (qn hl)))))))))))),⟨b0,b1,b2,b3,b4,b5,b6,b7,b8,b9,jD,oF⟩⟩
def GD {α:Type} [Inhabited α] {l:List α} {k:Nat} {x:α} (h:k<l.length):x∈l.take (k+1)↔x∈l.take k\/x=ae l k:=by rw[ep h];simp
def Ni (d:ao) (a:Answer) (h:a.bl.key=a.key):((d.key==a.key)&&([d.aw.time,d.aw.site]==[a.bl.aw.time,a.bl.aw.site]))=decide (d=a.bl.bD):=by
 obtain⟨k,⟨t,s⟩⟩:=d;obtain⟨ak,ay,av⟩:=a;obtain⟨vk,⟨vt,vs⟩,vv,vc,vca,vd⟩:=av;obtain rfl:vk=ak:=h;rw[Bool.eq_iff_iff];simp[aJ.bD]
def z7 {l:List aJ} {d:ao} (h:decide (placeOf l d<0)=false):0<=placeOf l d/\placeOf l d<l.length/\jm l d=some (ae l (placeOf l d).toNat):=by
 have hp:0<=placeOf l d:=by simpa using h
 have ha:jm l d=some (ae l (placeOf l d).toNat):=by unfold jm;rw[if_pos hp]
 refine⟨hp,?_,ha⟩;have:=(zm hp).1;omega
def WQ {s:Server} {m:az} (h:(m.kind==10&&(m.bj==fH s.site)&&([(ae s.aQ m.slot.toNat).bX,(ae s.aQ m.slot.toNat).fg]==[m.bX,2]))=true):(ct.cells (ae s.aQ m.slot.toNat)).set 1 (AV.int 0)=ct.cells ⟨m.bX,0⟩:=by
 simp only[Bool.and_eq_true,beq_iff_eq,List.cons.injEq] at h;show[AV.int _,AV.int 0]=[AV.int _,AV.int 0];rw[h.2.1]
def Nj {s:Server} {m:az} (h:(m.kind==9&&(m.bj==fH s.site)&&decide (0<m.bX))=true):m.kind=9/\((m.bj==fH s.site)&&decide (1<=m.bX))=true:=by
 simp only[Bool.and_eq_true,beq_iff_eq,decide_eq_true_eq] at h⊢;exact⟨h.1.1,h.1.2,by omega⟩
def xd {m:az} {k:Int} {b:Bool} (h:(m.kind==k&&b)=false) (hk:m.kind=k):b=false:=by rw[hk,beq_self_eq_true,Bool.true_and] at h;exact h
def GF (l:List Call) (aB:Int):
 Fn prog 217 [jb l,AV.int aB] (AV.int (cI l aB)):=by
 refine Fn.go 36 func217 ntmps217 (λW I a U=>?_);have hle:=U.dD (t:=0) rfl;refine ax λI a w U=>?_;refine St.lo (σ:=Nat) (run 32 4 []) ⟨λk=>[(5,AV.int k)],λk=>[],λk=>k<=l.length/\∀i,i<k->tn aB (ae l i)=false⟩ (λk=>l.length-k) 0 U ?aD ?bh;case aD=>exact⟨Nat.zero_le _,λi hi=>by omega⟩
 rintro k I a w aj U;obtain⟨hk,aT⟩:=aj;refine aU λI a w U=>?_;refine cz (λab=>?_) λab=>?_
 .refine Bt λI a w U=>?_;refine U.cd (λah=>?_) λah=>?_
  .change tn aB (ae l k)=true at ah;refine cK ?_;exact cj (mQ ab aT ah).symm
  change tn aB (ae l k)=false at ah;refine aI λI a w U=>?_;exact U.ag (k+1) (⟨ab,λi h1=>by rcases Nat.lt_succ_iff_lt_or_eq.1 h1 with h|h;exact aT i h;rw[h];exact ah⟩)
 refine zt ?_;refine aW ?_;exact cj (l9 om aT).symm
def Nk (w:aM) (e:Ev):(!aS e.aB 0 1||decide (0<=cI w.calls e.aB))=!(fC e.aB&&decide (cI w.calls e.aB<0)):=by
 have h:decide (0<=cI w.calls e.aB)=!decide (cI w.calls e.aB<0):=by rw[Bool.eq_iff_iff];simp
 rw[h];unfold fC;simp
def WR {m:az} (h:bY m=true) (h2:aS m.to 10 11=false):0<=m.to/\m.to<=3:=by
 have:=(oE h).2.2.1;simp only[l5,de,Bool.or_eq_true] at this;rw[h2] at this;simpa[aS] using this
def CG:Nat->List (List ao)
 |0=>[]
 |k+1=>CG k++[[]]
def Nl:∀k,(CG k).length=k
 |0=>rfl
 |k+1=>by show(CG k++[[]]).length=_;rw[List.length_append,Nl k];rfl
def aM.full (b:Nat) (x:aM) (s r q z:Value):List Own:=[Own.box b 28 [AV.int x.time,AV.val s,AV.val r,AV.val q,AV.val z],Own.row s 95 7 (x.aF.map Server.cells),Own.row r 108 15 (x.aC.map az.cells),Own.row q 45 13 (x.calls.map Call.cells),Own.row z 40 1 (x.seen.map fh)]
def Nm (w:aM) (e:Ev):(!fC e.aB||decide (0<=cI w.calls e.aB))=!(fC e.aB&&decide (cI w.calls e.aB<0)):=by
 have h:decide (0<=cI w.calls e.aB)=!decide (cI w.calls e.aB<0):=by rw[Bool.eq_iff_iff];simp
 rw[h];simp
def Nn (v:Value) (l:List az) (i:Int) (h0:0<=i) (hi:i<l.length) (hl:l.length<=1048576):bG prog 234 [AV.val v,AV.int i,AV.int (i+1)] [Own.row v 108 15 (l.map az.cells)] (λ_:Value=>True) (λu=>[Own.row u 108 15 ((l.take i.toNat++l.drop (i.toNat+1)).map az.cells)]) AV.val:=by
 obtain⟨n,rfl⟩:=Int.eq_ofNat_of_zero_le h0;rw[List.map_append,List.map_take,List.map_drop];exact WA v (l.map az.cells) n jr jr (λr hr=>by obtain⟨u,_,rfl⟩:=List.mem_map.1 hr;rfl)
def WS {m:az} (h:bY m=true) (U:de m.to=false):aS m.to 10 11=true:=by
 have:=(oE h).2.2.1;unfold l5 at this;rw[U,Bool.false_or] at this;exact this
def z8 {t:NT} {x:aM} (h:t.plain=x):t.seen.length=x.seen.length:=by rw[<-h];simp[NT.plain]
def CH {t:NT} {x:aM} (h:t.plain=x) (k:Nat):(jz k t).1.plain=(n8 k x).1/\(jz k t).2=(n8 k x).2:=by
 have:=TS k t;rw[h] at this;exact⟨(congrArg Prod.fst this).symm,(congrArg Prod.snd this).symm⟩
end Go.Proofs.YtldbakcpcfdlaaaGreat
