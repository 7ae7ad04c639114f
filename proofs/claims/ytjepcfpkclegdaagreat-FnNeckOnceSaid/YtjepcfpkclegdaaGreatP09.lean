/- Part 9: contracts of functions, plain facts. -/
import Derived.Test.YtjepcfpkclegdaaGreatP05
set_option linter.unusedVariables false
set_option linter.unusedSimpArgs false
set_option maxRecDepth 100000
set_option maxHeartbeats 4000000
namespace Go.Proofs.YtjepcfpkclegdaaGreat
open Go Go.RowKit
attribute [local irreducible] wpList Code.wp Ok
theorem vf (s:cw):
 Fn Tryz.prog 82 [s.av] (AV.bool (dL s)):=by
 refine Fn.go 6 Tryz.func82 Tryz.ntmps82 (λW I a U=>?_)
 refine bk λI a w U=>?_
 refine U.o (.bd jU bf.nil) λU=>?_
 refine U.o (mM [_,_] [_,_] og rfl rfl .tt .tt) λU=>?_
 refine ai λI a w U=>?_
 refine U.rt ?_
 exact bG (by simp[dL])
theorem AA (n:Int):
 Fn Tryz.prog 166 [AV.int n] (AV.bool (aQ n 10 11)):=by
 refine Fn.go 5 Tryz.func166 Tryz.ntmps166 (λW I a U=>?_)
 refine aF λI a w U=>?_
 refine U.o (.cl (jM ..)) λU=>?_
 refine ai λI a w U=>?_
 refine U.rt ?_
 rfl
theorem XJ (n:Int):ff (n-10)=aQ n 10 11:=by
 simp only[ff,aQ];rw[Bool.eq_iff_iff];simp;omega
theorem AB {α:Type} (p:α->Bool) (l:List α):cM p l<(l.length:Int)\/cM p l=-1:=by
 unfold cM
 split
 ·rename_i k h
  have:=(List.findIdx?_eq_some_iff_getElem.1 h).1
  left;omega
 ·right;rfl
theorem AD {α:Type} [Inhabited α] {p:α->Bool} {l:List α} (h:cM p l<0):∀k,k<l.length->p (ab l k)=false:=by
 unfold cM at h
 split at h
 ·omega
 ·rename_i hn
  rw[List.findIdx?_eq_none_iff] at hn
  intro k hk
  have:=hn (ab l k) (by unfold ab;rw[List.getD_eq_getElem?_getD,List.getElem?_eq_getElem hk];exact List.getElem_mem _)
  exact this
def tM (s:Server) (v:aB):Bool:=(dX s v.key !=0)&&(bL v.aq.site !=bL s.site)&&decide (placeOf s.ao v.aT<0)
def r9 (s:Server) (i:Nat):Bool:=tM s (ab s.waits i)
theorem ND (s:Server) (v:aB):((dX s v.key==0)||!(bL v.aq.site !=bL s.site)||decide (0<=placeOf s.ao v.aT))=!tM s v:=by
 have e:decide (0<=placeOf s.ao v.aT)=!decide (placeOf s.ao v.aT<0):=by rw[Bool.eq_iff_iff];simp
 rw[e];simp[tM,bne]
theorem qF {n:Int} (h:dp n=true):0<=cQ n/\cQ n<3:=by
 unfold cQ;simp only[h,if_true];simp[dp,aQ] at h;omega
theorem XK (s:Server) (key:Int) (hk:dp key=true) (hl:s.aG.length=3):
 Fn Tryz.prog 205 [s.av,AV.int key] (AV.bool (dX s key !=0)):=by
 refine Fn.go 13 Tryz.func205 Tryz.ntmps205 (λW I a U=>?_)
 have hr:=qF hk
 refine aA λI a w U=>?_
 refine U.dk ?_
 refine cD ?_
 refine .o (.c1 (uV ..)) ?_
 refine fi ?_
 refine .nil ?_
 intro I a w U
 refine zt ?_
 refine U.rt ?_
 rfl
def fN:List au->au->List au
 |[],d=>[d]
 |e::r,d=>if e.key=d.key then(if bP e.aq d.aq then d else e)::r else if d.key<e.key then d::e::r else e::fN r d
def iK (a b:List au):List au:=b.foldl fN a
theorem NF {a b:cw} (h:bP a b=false) (h':bP b a=false):a=b:=by
 obtain⟨t,s⟩:=a
 obtain⟨t',s'⟩:=b
 simp[bP] at h h'
 simp
 omega
theorem C3 {a b:cw} (h:bP a b=true):bP b a=false:=by
 obtain⟨t,s⟩:=a
 obtain⟨t',s'⟩:=b
 simp[bP] at h⊢
 omega
theorem NG (e d:au) (h:e.key=d.key):(if bP d.aq e.aq then e else d)=(if bP e.aq d.aq then d else e):=by
 cases h1:bP d.aq e.aq
 ·cases h2:bP e.aq d.aq
  ·have:=NF h1 h2
   obtain⟨k,s⟩:=e
   obtain⟨k',s'⟩:=d
   simp at this h⊢;exact⟨h.symm,this⟩
  ·simp
 ·rw[C3 h1];simp
theorem NH:∀{l:List au} {last:Int} {d:au},dI last l=true->aQ d.key (last+1) 5=true->db d.aq=true->dI last (fN l d)=true
 |[],last,d,_,h,U=>by simp[fN,dI,h,U]
 |e::r,last,d,hl,h,U=>by
  simp only[dI,Bool.and_eq_true] at hl
  obtain⟨⟨h1,h2⟩,h3⟩:=hl
  unfold fN
  split
  ·rename_i hk
   split
   ·simp only[dI,Bool.and_eq_true]
    exact⟨⟨h,U⟩,hk▸h3⟩
   ·simp only[dI,Bool.and_eq_true]
    exact⟨⟨h1,h2⟩,h3⟩
  ·rename_i hk
   split
   ·rename_i bw
    simp only[dI,Bool.and_eq_true]
    refine⟨⟨h,U⟩,⟨?_,h2⟩,h3⟩
    simp[aQ] at h1⊢;omega
   ·rename_i bw
    simp only[dI,Bool.and_eq_true]
    refine⟨⟨h1,h2⟩,NH h3 ?_ U⟩
    simp[aQ] at h⊢;omega
def lh (d:au):Bool:=dp d.key&&db d.aq
theorem XL (d:au):bN [d]=lh d:=by simp[bN,dI,lh,dp]
theorem wS {l:List au} {d:au} (h:bN l=true) (hd:lh d=true):bN (fN l d)=true:=by
 simp only[lh,Bool.and_eq_true] at hd
 exact NH h (by simpa[dp] using hd.1) hd.2
theorem gq {α:Type} [Inhabited α] {l:List α} {x:α} (h:x∈l):∃k,k<l.length/\ab l k=x:=by
 obtain⟨k,hk,rfl⟩:=List.getElem_of_mem h
 exact⟨k,hk,by simp[ab,hk]⟩
theorem wT {a b:List au} (ha:bN a=true) (hb:∀d∈b,lh d=true):bN (iK a b)=true:=by
 unfold iK
 induction b generalizing a with
 |nil=>exact ha
 |cons d r ih=>exact ih (wS ha (hb d (by simp))) (λe he=>hb e (by simp[he]))
theorem NI {a b:List au} {k:Nat} (h:k<b.length):iK a (b.take (k+1))=fN (iK a (b.take k)) (ab b k):=by
 unfold iK;rw[dW h,List.foldl_append];rfl
structure lj (l:List au) (d:au) (k:Nat) (done:Bool) (out:List au):Prop where
 hk:k<=l.length
 eq:fN l d=if done then out++l.drop k else out++fN (l.drop k) d
 late:done=true->∀i,k<=i->i<l.length->d.key<(ab l i).key
 len:out.length<=k+done.toNat
theorem lj.zero (l:List au) (d:au):lj l d 0 false []:=⟨Nat.zero_le _,by simp,(λh=>by cases h),by simp⟩
def iZ (c:Call):Bool:=lI c.keys&&((c.kind==1&&((c.keys.length:Int)==1))||(c.kind==2&&aQ c.keys.length 1 3))
def vg (key:Int) (n:Int):Bool:=n==key
def gJ (a b:Answer):Bool:=decide (a.key<b.key)
def pP (c:Call):Bool:=(c.az.length:Int)==c.keys.length
def ox (c:Call) (time:Int):Bool:=if c.end_=0 then dL c.aq else !(c.over||!aQ c.end_ (c.bD+1) time||decide (0<(c.aP.length:Int)))&&((c.kind==1&&!dL c.aq)||(!(c.kind==1)&&pP c))
def vh (l:List Int) (k:Nat):Int:=if k=0 then-1 else ab l (k-1)
theorem XM (l:List Int) (k:Nat):vh l (k+1)=ab l k:=by simp[vh]
theorem GO {n:Int}:dp n=true↔0<=n/\n<=5:=by simp[dp,aQ]
theorem NJ {l:List Int} {k:Nat} (h:∀i,i<k->eQ dp oZ l i=true):-1<=vh l k/\vh l k<=5:=by
 unfold vh
 split
 ·omega
 ·rename_i hk
  have:=h (k-1) (by omega)
  unfold eQ at this
  rw[Bool.and_eq_true,GO] at this
  omega
theorem NK {l:List Int} {k:Nat} (h:∀i,i<k->eQ dp oZ l i=true):aQ (ab l k) (vh l k+1) 5=eQ dp oZ l k:=by
 have:=NJ h
 unfold eQ vh at*
 by_cases hk:k=0
 ·subst hk;simp[dp,aQ]
 ·simp only[hk,if_false] at this⊢
  rw[Bool.eq_iff_iff]
  simp[dp,aQ,oZ];omega
theorem yv {l:List Int} (h:lI l=true) {n:Int} (hn:n∈l):dp n=true:=by
 obtain⟨k,hk,rfl⟩:=gq hn
 have:=(gx.1 h) k hk
 unfold eQ at this
 rw[Bool.and_eq_true] at this
 exact this.1
def eV:cw:=⟨0,0⟩
theorem GP {s:cw} (h:1<=s.time):bP eV s=true:=by
 obtain⟨t,u⟩:=s
 have h:(1:Int)<=t:=h
 have e:decide ((0:Int)<t)=true:=decide_eq_true (by omega)
 show(decide ((0:Int)<t)||_)=true
 rw[e];rfl
theorem GQ {s:cw} (h:1<=s.time):bP s eV=false:=by
 obtain⟨t,u⟩:=s
 have h:(1:Int)<=t:=h
 show(decide (t<(0:Int))||((t==(0:Int))&&decide (u<(0:Int))))=false
 have e:decide (t<(0:Int))=false:=decide_eq_false (by omega)
 have e2:(t==(0:Int))=false:=by simp;omega
 rw[e,e2];rfl
theorem NL {α:Type} [Inhabited α] {f:α->Int} {l:List α} (h:∀i,0<i->i<l.length->f (ab l (i-1))<f (ab l i)):(l.map f).Pairwise (·<·):=by
 rw[List.pairwise_iff_getElem]
 intro i j hi hj gN
 simp only[List.length_map] at hi hj
 simp only[List.getElem_map]
 have e:∀k (hk:k<l.length),l[k]=ab l k:=λk hk=>by simp[ab,hk]
 rw[e i hi,e j hj]
 obtain⟨n,rfl⟩:∃n,j=i+1+n:=⟨j-(i+1),by omega⟩
 clear gN
 induction n with
 |zero=>have:=h (i+1) (by omega) hj;simpa using this
 |succ n ih=>
  have h1:=ih (by omega)
  have h2:=h (i+1+(n+1)) (by omega) hj
  rw[show i+1+(n+1)-1=i+1+n from by omega] at h2
  omega
theorem NM {l:List Int} (h:lI l=true):l.Pairwise (·<·):=by
 have:=NL (f:=λn:Int=>n) (l:=l) λi h0 hi=>by
  have:=(gx.1 h) i hi
  unfold eQ at this
  simp[oZ] at this
  have h1:=this.2
  omega
 simpa using this
theorem NN (c:Call):(aQ c.kind 1 2&&wC c)=iZ c:=by
 unfold wC iZ
 cases lI c.keys
 ·simp
 ·rw[Bool.eq_iff_iff]
  simp[aQ];omega
theorem NO (n m:Nat):((n:Int)==m)=decide (n=m):=by
 rw[Bool.eq_iff_iff];simp;omega
def oz (w:aE):Bool:=!(!aQ w.time 0 99999||((w.ax.length:Int) !=4)||decide (60<(w.ar.length:Int))||((w.seen.length:Int) !=2))
def wU (m:aC):Bool:=!bO m
def wV (l:List au):Bool:=!bN l
theorem GR {a b:cw} (h:∀x,bP x a=bP x b):a=b:=by
 have h1:=h a
 have h2:=h b
 have e:∀s:cw,bP s s=false:=λs=>by simp[bP]
 rw[e] at h1 h2
 exact NF h1.symm h2
def sd (s:cw):Prop:=s=eV\/db s=true
def km (out:List au) (a:Answer):List au:=iK out a.be.aO
def eW (c:Call):List au:=c.az.foldl km []
def l9 (out:List au) (a:Answer):List au:=if a.yes then fN (iK out a.be.aO) a.be.aT else out
def se (out:List au) (a:Answer):List au:=if a.yes then fN out ⟨a.key,a.be.aq⟩ else out
def dP (c:Call):List au:=if c.end_=0 then c.ctx else if c.kind=1 then fN c.ctx ⟨ab c.keys 0,c.aq⟩ else c.az.foldl l9 c.ctx
def GS (c:Call):List au:=if c.end_=0 then c.ctx else if c.kind=1 then fN c.ctx ⟨ab c.keys 0,c.aq⟩ else c.az.foldl se (iK c.ctx (eW c))
def o7 (s:Server) (l:List aB) (i:Nat):Bool:=dX s (ab l i).key !=0
def wW (s:Server) (i:Nat):Bool:=!((decide (0<=placeOf s.ao (ab s.waits i).aT))||(bL (ab s.waits i).aq.site==bL s.site))
theorem XN (s:Server) (i:Nat):r9 s i=(o7 s s.waits i&&wW s i):=by
 unfold r9 tM o7 wW
 have e:decide (placeOf s.ao (ab s.waits i).aT<0)=!decide (0<=placeOf s.ao (ab s.waits i).aT):=by rw[Bool.eq_iff_iff];simp
 rw[e]
 cases(dX s (ab s.waits i).key !=0)<;>cases decide (0<=placeOf s.ao (ab s.waits i).aT)<;>simp[bne]
def qG:List aB->aB->List aB
 |[],v=>[v]
 |x::r,v=>if gy v x then v::x::r else x::qG r v
theorem XO {a b:au} (h:dZ a b=true):dZ b a=false:=by
 obtain⟨k,⟨t,s⟩⟩:=a
 obtain⟨k',⟨t',s'⟩⟩:=b
 simp[dZ,bP] at h⊢
 omega
theorem pQ {l:List aB} {d:au} (h:placeOf l d<0):∀x∈l,x.aT≠d:=λx hx he=>by
 obtain⟨k,hk,rfl⟩:=gq hx
 have:=AD h k hk
 simp[l6] at this;exact this he
theorem NP {α:Type} [Inhabited α] {R:α->α->Prop} (tr:∀{a b d},R a b->R b d->R a d) {l:List α} (h:∀i,0<i->i<l.length->R (ab l (i-1)) (ab l i)):l.Pairwise R:=by
 rw[List.pairwise_iff_getElem]
 intro i j hi hj gN
 have e:∀k (hk:k<l.length),l[k]=ab l k:=λk hk=>by simp[ab,hk]
 rw[e i hi,e j hj]
 obtain⟨n,rfl⟩:∃n,j=i+1+n:=⟨j-(i+1),by omega⟩
 clear gN
 induction n with
 |zero=>have:=h (i+1) (by omega) hj;simpa using this
 |succ n ih=>
  have h1:=ih (by omega)
  have h2:=h (i+1+(n+1)) (by omega) hj
  rw[show i+1+(n+1)-1=i+1+n from by omega] at h2
  exact tr h1 h2
theorem gu {l:List aB} (h:cn l=true):∀x∈l,dM x=true:=λx hx=>by
 obtain⟨k,hk,rfl⟩:=gq hx
 exact uW h hk
def dU (l:List aB) (d:au):Option aB:=if 0<=placeOf l d then some (ab l (placeOf l d).toNat) else none
theorem XP {l:List aB} {d:au} {k:Nat} (hk:k<l.length) (h:∀i,i<k->l6 d (ab l i)=false) (hp:l6 d (ab l k)=true):dU l d=some (ab l k):=by
 have e:placeOf l d=k:=nA hk h hp
 unfold dU;rw[e,if_pos (by omega)];rfl
theorem XQ {l:List aB} {d:au} {k:Nat} (hk:l.length<=k) (h:∀i,i<k->l6 d (ab l i)=false):dU l d=none:=by
 have e:placeOf l d=-1:=mR hk h
 unfold dU;rw[e,if_neg (by omega)]
theorem NQ (l:List aB) (d:au):(dU l d).isSome=decide (0<=placeOf l d):=by
 unfold dU;split<;>simp_all
structure nJ (l:List aB) (v:aB) (k:Nat) (done:Bool) (out:List aB):Prop where
 hk:k<=l.length
 eq:qG l v=if done then out++l.drop k else out++qG (l.drop k) v
 len:out.length<=k+done.toNat
theorem nJ.zero (l:List aB) (v:aB):nJ l v 0 false []:=⟨Nat.zero_le _,by simp,by simp⟩
def fH (l:List au) (d:au):Int:=cM (λe=>decide (e=d)) l
theorem NR (e d:au):(decide (d.key<e.key)||((e.key==d.key)&&bP d.aq e.aq))=dZ d e:=by
 unfold dZ
 by_cases h:e.key=d.key
 ·simp[h]
 ·have e1:(e.key==d.key)=false:=by simpa using h
  have e2:(d.key==e.key)=false:=by simpa usingλx=>h x.symm
  rw[e1,e2]
def mX (s:Server) (d:au):Bool:=decide (0<=placeOf s.ao d)||decide (0<=fH s.bl d)
def AE (s:Server) (v:aB):Bool:=cF v.aO.length λi=>mX s (ab v.aO i)
def qH (d:au) (v:aB):Bool:=decide (0<=fH v.aO d)
def jy (s:Server) (d:au):Bool:=!cF s.waits.length λi=>!qH d (ab s.waits i)
def gv (s:Server) (key:Int):Bool:=dp key&&(dX s key==1)
def ll (s:Server) (v:aB):Bool:=(dX s v.key==1)&&AE s v
def eL (s:Server):Int:=if s.ao.length<80 then cM (ll s) s.waits else-1
def C4 (s:Server):Server:={s with bl:=s.bl.filter (jy s)}
theorem yw {s:Server} (h:0<=eL s):(eL s).toNat<s.waits.length/\s.ao.length<80/\ll s (ab s.waits (eL s).toNat)=true:=by
 unfold eL at*
 split at h
 ·rename_i hl
  rw[if_pos hl]
  unfold cM at*
  split at h
  ·rename_i k hk
   obtain⟨h1,h2,_⟩:=List.findIdx?_eq_some_iff_getElem.1 hk
   exact⟨by simpa using h1,hl,by simpa[ab,h1] using h2⟩
  ·omega
 ·omega
def vi (s:Server) (m:aC):Bool:=cL m.aR&&(bL m.aR !=bL s.site)&&decide (m.ao.length=1)&&gv s (ab m.ao 0).key&&(bL (ab m.ao 0).aq.site !=bL s.site)
def mY (s:Server) (m:aC):Server:=
 if cL m.aR&&(bL m.aR !=bL s.site)&&decide (0<=fH s.aD ⟨m.key,m.aq⟩)&&(dX s m.key==1) then
  {s with aD:=s.aD.take (fH s.aD ⟨m.key,m.aq⟩).toNat++s.aD.drop ((fH s.aD ⟨m.key,m.aq⟩).toNat+1)}
 else s
def leaving (s:Server):List Nat:=(List.range s.aG.length).filter λi=>(ab s.aG i).dH==2
def nK (s:Server) (asked:List au) (d:au):List au:=if mX s d||decide (0<=fH asked d) then asked else asked++[d]
def wX (s:Server):List au:=(s.waits.map aB.aO).flatten.foldl (nK s) []
def mZ (s:Server) (slot:Int):Bool:=s.up&&aQ slot 0 2&&((ab s.aG slot.toNat).dH==1)&&decide ((ab s.aG slot.toNat).bz<9999)
def kb (q:Call) (m:aC):List aC:=[{m with aR:=10+q.an,to:=2*q.an,call:=q.num},{m with aR:=10+q.an,to:=2*q.an+1,call:=q.num}]
def cR:List Answer->Answer->List Answer
 |[],a=>[a]
 |e::r,a=>if a.key<e.key then a::e::r else e::cR r a
def wY (site:Nat):Server:=⟨site,true,(List.range 3).map λi=>if i%2=site%2 then⟨1,1⟩ else⟨0,0⟩,[],[],[],[]⟩
def cX:aE:=⟨0,(List.range 4).map wY,[],[],[[],[]]⟩
theorem tN (l:List au) (h:l.length<=1048576):
 Fn Tryz.prog 73 [bm l] (bm l):=by
 refine Fn.go 5 Tryz.func73 Tryz.ntmps73 (λW I a U=>?_)
 refine aF λI a w U=>?_
 have U:=U.gC (sz:=3) 63
 refine U.append 0 rfl dJ cH rfl .c .r rfl (by simp;omega) λv4 a w U=>?_
 obtain⟨I,U⟩:=U.fr 0 4
 refine ai λI a w U=>?_
 refine U.rt ?_
 rfl
theorem XR (v:Value) (l:List (List AV)) (x:List AV) (i:Nat) (hi:i<=l.length) (hl:l.length<=1048576) (et:∀r∈l,r.length=7) (hx:x.length=7):
 jK Tryz.prog 151 [AV.val v,AV.int i,AV.rows 7 [x]] [Own.row v 43 7 l] [] (AV.rows 7 (l.take i++x::l.drop i)):=by
 refine jK.intro 95 Tryz.func151 rfl Tryz.ntmps151 rfl (by kernel_rfl) (λW I a U=>?_)
 obtain⟨q,cap,rfl,nk⟩:=U.z6 0 rfl
 refine bk λI a w U=>?_
 refine U.o (FA cJ bA .tt .tt ⟨by omega,by omega⟩ nk) λU=>?_
 refine bH λI a w U=>?_
 refine U.o (zx cJ .tt) λU=>?_
 rw[show(([x]:List (List AV)).length:Int)=1 from rfl] at U
 refine aI λI a w U=>?_
 refine U.cd (λae=>?_) λae=>?_
 ·exfalso;simp at ae
  skip
 ·refine jj λI a w U=>?_
  refine cz (λah=>?_) λah=>?_
  ·refine aF λI a w U=>?_
   refine U.append 0 rfl cJ bA rfl .tt .tt rfl (by simp only[List.length_singleton];omega) λwZ a w U=>?_
   obtain⟨I,U⟩:=U.fr 0 25
   have U:=U.drop 0
   refine ai λI a w U=>?_
   refine U.tp rfl (.cons .x .nil) rfl ?_
   exact congrArg (AV.rows 7) (by rw[show i=l.length by omega];simp)
  ·refine bt λI a w U=>?_
   refine U.o (z1 cJ .tt) λU=>?_
   refine ai λI a w U=>?_
   refine cz (λal=>?_) λal=>?_
   ·refine zt ?_
    have bj:l≠[]:=by intro e;rw[e] at hi ah;simp at hi ah;omega
    obtain⟨b,oN,he,n7,j2,nz,U⟩:=U.tn 0 rfl bj
    simp only[Value.slice.injEq] at he
    obtain⟨rfl,_,rfl⟩:=he
    have hA:(l.take i).flatten.length=i*7:=by rw[gI λr hr=>et r (List.mem_of_mem_take hr),List.length_take,Nat.min_eq_left hi]
    have hB:(l.drop i).flatten.length=(l.length-i)*7:=by rw[gI λr hr=>et r (List.mem_of_mem_drop hr),List.length_drop]
    rw[show l.flatten=(l.take i).flatten++(l.drop i).flatten by rw[<-List.flatten_append,List.take_append_drop],List.map_append] at U
    have gE:([x]:List (List AV)).flatten.length=7:=by simpa using hx
    have hlen:(l.take i++x::l.drop i).length=l.length+1:=by simp;omega
    have nL:∀r∈l.take i++x::l.drop i,r.length=7:=λr hr=>(List.mem_append.1 hr).elim (λh=>et r (List.mem_of_mem_take h)) λh=>(List.mem_cons.1 h).elim (λe=>e▸hx) λh=>et r (List.mem_of_mem_drop h)
    have qI:(l.take i++x::l.drop i).flatten.map some=(l.take i).flatten.map some++([x]:List (List AV)).flatten.map some++(l.drop i).flatten.map some:=by simp
    refine aF λI a w U=>?_
    refine U.o (rJ (hi:=i) cJ bA .tt .tt rfl (by omega) (by omega)) λU=>?_
    refine bM λI a w U=>?_
    refine U.FC (eR:=l.length+1-i) (xs:=(l.take i).flatten) 0 cJ ny bA rfl (by decide) .tt .tt (by omega) (by omega) rfl (by rw[List.drop_zero,List.append_assoc];exact kV _ (List.length_map _)) hA (by omega) (by omega) (by omega) rfl λ{gb w3 a w} n6 pB U=>?_
    refine bk λI a w U=>?_
    refine U.o (ky (lo:=i) cJ bA .tt .tt rfl (by omega) (by omega)) λU=>?_
    refine U.m λU=>?_
    refine U.xX 1 cJ bA .tt .tt rfl (by simp) (by simp only[List.length_singleton];omega) (by simp only[List.length_singleton,List.length_append,List.length_map,List.length_replicate,hA];omega) rfl λU=>?_
    refine zt ?_
    refine U.dt 8 ?_
    simp only[TD]
    refine dq ?_
    refine .o (ky (lo:=i+1) cJ bA .tt .tt (by omega) (by omega) (by omega)) ?_
    refine bT ?_
    refine .o (ky (lo:=i) cJ bA .tt .tt rfl (by omega) (by omega)) ?_
    refine .nil ?_
    intro I a w U
    refine U.xY (xs:=(l.drop i).flatten) 1 0 cJ bA .tt .tt rfl rfl (by rw[List.append_assoc,wk _ (by simp only[List.length_map,hA];omega)];exact kV _ (List.length_map _)) (by rw[hB,Nat.min_eq_left (by omega)]) (by rw[l4 (by simp only[List.length_map,List.length_append,List.length_replicate,gE,hA];omega)];simp only[List.length_append,List.length_map,List.length_replicate,hA,hB];omega) rfl λU=>?_
    rw[FI (by simp only[List.length_map,hA];omega) (by simp only[List.length_map,gE];omega) (by simp only[List.length_map,List.length_replicate,gE,hB];omega)] at U
    have U:=U.rH (l:=l.take i++x::l.drop i) (cap:=w3) 1 rfl (by simp only[List.length_append,List.length_map,List.length_drop,List.length_replicate,hA,hB,gE];omega) nL (by omega) (by omega) (by omega) (by rw[qI,hlen];exact kV _ (by simp only[List.length_append,List.length_map,hA,hB,gE];omega))
    rw[show i+(l.length+1-i)=(l.take i++x::l.drop i).length by omega] at U
    obtain⟨I,U⟩:=U.fr 1 9
    have U:=U.drop 0
    refine aA λI a w U=>?_
    exact U.tp rfl (.cons (by first|exact .t rfl|exact .nil rfl) .nil) rfl rfl
   ·refine zt ?_
    have bj:l≠[]:=by intro e;rw[e] at hi ah;simp at hi ah;omega
    obtain⟨b,oN,he,n7,j2,nz,U⟩:=U.tn 0 rfl bj
    simp only[Value.slice.injEq] at he
    obtain⟨rfl,_,rfl⟩:=he
    have hA:(l.take i).flatten.length=i*7:=by rw[gI λr hr=>et r (List.mem_of_mem_take hr),List.length_take,Nat.min_eq_left hi]
    have hB:(l.drop i).flatten.length=(l.length-i)*7:=by rw[gI λr hr=>et r (List.mem_of_mem_drop hr),List.length_drop]
    rw[show l.flatten=(l.take i).flatten++(l.drop i).flatten by rw[<-List.flatten_append,List.take_append_drop],List.map_append] at U
    have gE:([x]:List (List AV)).flatten.length=7:=by simpa using hx
    have hlen:(l.take i++x::l.drop i).length=l.length+1:=by simp;omega
    have nL:∀r∈l.take i++x::l.drop i,r.length=7:=λr hr=>(List.mem_append.1 hr).elim (λh=>et r (List.mem_of_mem_take h)) λh=>(List.mem_cons.1 h).elim (λe=>e▸hx) λh=>et r (List.mem_of_mem_drop h)
    have qI:(l.take i++x::l.drop i).flatten.map some=(l.take i).flatten.map some++([x]:List (List AV)).flatten.map some++(l.drop i).flatten.map some:=by simp
    refine bt λI a w U=>?_
    refine U.o (rJ (hi:=l.length+1) cJ bA .tt .tt (by omega) (by omega) (by omega)) λU=>?_
    refine dD λI a w U=>?_
    refine U.o (ky (lo:=i+1) cJ bA .tt .tt (by omega) (by omega) (by omega)) λU=>?_
    refine U.overlaps (tR:=4) 0 Tryz.func195 rfl (by kernel_rfl) (by kernel_rfl) (by kernel_rfl) cJ bA (by decide) .tt (by simp) .tt rfl rfl λU=>?_
    refine ai λI a w U=>?_
    refine U.cd (λaH=>?_) λaH=>?_
    ·refine wp_seq ?_
     refine U.dt 8 ?_
     simp only[TD]
     refine dq ?_
     refine .o (ky (lo:=i+1) cJ bA .tt .tt (by omega) (by omega) (by omega)) ?_
     refine bT ?_
     refine .o (ky (lo:=i) cJ bA .tt .tt rfl (by omega) (by omega)) ?_
     refine .nil ?_
     intro I a w U
     refine U.xY (xs:=(l.drop i).flatten) 0 0 cJ bA .tt .tt rfl rfl (by rw[List.append_assoc,wk _ (by simp only[List.length_map,hA];omega)];exact kV _ (List.length_map _)) (by rw[hB];congr 1;omega) (by simp only[List.length_append,List.length_map,List.length_replicate,hA,hB];omega) rfl λU=>?_
     refine aF λI a w U=>?_
     refine U.o (ky (lo:=i) cJ bA .tt .tt rfl (by omega) (by omega)) λU=>?_
     refine U.m λU=>?_
     refine U.xX 0 cJ bA .tt .tt rfl (by simp) (by simp only[List.length_singleton];omega) (by rw[l4 (by simp only[List.length_map,List.length_append,List.length_replicate,hA,hB];omega)];simp only[List.length_singleton,List.length_append,List.length_map,List.length_replicate,hA,hB];omega) rfl λU=>?_
     rw[FH (by simp only[List.length_map,hA];omega) (by simp only[List.length_map,gE];omega) (by simp only[List.length_map,List.length_replicate,gE];omega)] at U
     have U:=U.rH (l:=l.take i++x::l.drop i) (cap:=cap) 0 rfl (by simp only[List.length_append,List.length_map,List.length_drop,List.length_replicate,hA,hB,gE];omega) nL (by omega) (by omega) (by omega) (by rw[qI,hlen];exact kV _ (by simp only[List.length_append,List.length_map,hA,hB,gE];omega))
     rw[show l.length+1=(l.take i++x::l.drop i).length by omega] at U
     obtain⟨I,U⟩:=U.fr 0 0
     have U:=U.drop 0
     refine aA λI a w U=>?_
     exact U.tp rfl (.cons (by first|exact .t rfl|exact .nil rfl) .nil) rfl rfl
    ·exfalso;simp at aH
     skip
theorem XS (l:List Int) (key:Int):
 Fn Tryz.prog 192 [jg l,AV.int key] (AV.int (cM (vg key) l)):=by
 refine Fn.go 19 Tryz.func192 Tryz.ntmps192 (λW I a U=>?_)
 have hle:=U.cW (t:=0) rfl
 refine aU λI a w U=>?_
 refine St.lo (σ:=Nat) (run 2 4 (run 11 8 [])) ⟨λk=>[(8,AV.int k)],λk=>[],λk=>k<=l.length/\∀i,i<k->vg key (ab l i)=false⟩ (λk=>l.length-k) 0 U ?aJ ?aK
 case aJ=>exact⟨Nat.zero_le _,λi hi=>by omega⟩
 case aK=>
  rintro k I a w aj U
  obtain⟨hk,aN⟩:=aj
  refine ai λI a w U=>?_
  refine cz (λae=>?_) λae=>?_
  ·refine ob λI a w U=>?_
   refine U.cd (λah=>?_) λah=>?_
   ·rw[show(key==ab l k)=vg key (ab l k) from Bool.beq_comm] at ah
    refine aA λI a w U=>?_
    refine U.rt ?_
    exact fD (nA ae aN ah).symm
   ·rw[show(key==ab l k)=vg key (ab l k) from Bool.beq_comm] at ah
    refine aA λI a w U=>?_
    exact U.ag (k+1) (⟨by omega,λi h1=>by rcases Nat.lt_succ_iff_lt_or_eq.1 h1 with h|h;exact aN i h;rw[h];exact ah⟩)
  ·refine zt ?_
   refine ai λI a w U=>?_
   refine U.rt ?_
   exact fD (mR (by omega) aN).symm
theorem NS (q:Call):
 Fn Tryz.prog 83 [q.av] (AV.bool (pP q)):=by
 refine Fn.go 10 Tryz.func83 Tryz.ntmps83 (λW I a U=>?_)
 refine wu λI a w U=>?_
 refine U.rt ?_
 rfl
theorem C5 (s:cw):([s.time,s.site] !=[0,0])=!dL s:=by
 rw[Bool.eq_iff_iff];simp[dL];omega
theorem XT {n:Nat} (h:(20:Int)<n):decide (n<=20)=false:=by simp;omega
theorem NT {x:aE} (h:oz x=true):0<=x.time/\x.time<=99999:=by
 simp only[oz,Bool.not_eq_true',Bool.or_eq_false_iff] at h
 have:=h.1.1.1
 simp[aQ] at this;exact this
theorem w4 {q:Call} (h:iZ q=true) (hk:q.kind=1):0<q.keys.length:=by
 unfold iZ at h
 rw[Bool.and_eq_true] at h
 have:=h.2
 simp[hk] at this;omega
theorem w5 (v:aB) (h:v.aO.length<=1048576):
 Fn Tryz.prog 135 [v.av] (v.av):=by
 refine Fn.go 8 Tryz.func135 Tryz.ntmps135 (λW I a U=>?_)
 refine sr<|U.box rfl .tt λb1 I a w U=>U.alloc rfl bA dE λb2 I a w U=>?_
 refine aF λI a w U=>?_
 refine U.o (.cl (tN v.aO h)) λU=>?_
 refine aU λI a w U=>?_
 refine U.ret rfl (.cons (.sx 1) aX.nil) ?_
 rfl
theorem jz {l:List au} (h:gi l=true):l.length<=80:=by
 unfold gi at h
 rw[Bool.and_eq_true,decide_eq_true_eq] at h;exact h.1
theorem GU {v:aB} (h:dM v=true):bN v.aO=true:=by
 simp only[dM,Bool.and_eq_true] at h;exact h.1.2
def Server.yx (s:Server) (v:Value):AV:=.agg [.int s.site,.bool s.up,.val v,bX s.ao,bX s.waits,bm s.aD,bm s.bl]
def Server.NU (s:Server) (r:Value×Value×Value×Value×Value):List Own:=[Own.row r.1 104 2 (s.aG.map dG.cells),Own.row r.2.1 43 7 (s.ao.map aB.cells),Own.row r.2.2.1 43 7 (s.waits.map aB.cells),Own.row r.2.2.2.1 63 3 (s.aD.map au.cells),Own.row r.2.2.2.2 63 3 (s.bl.map au.cells)]
theorem oA {α:Type} [Inhabited α] {p:α->Bool} {l:List α} {k:Nat} (h:k<l.length) (hp:p (ab l k)=true):(l.take (k+1)).filter p=(l.take k).filter p++[ab l k]:=by
 rw[dW h,List.filter_append,List.filter_cons,hp];rfl
theorem NV {α:Type} [Inhabited α] {p:α->Bool} {l:List α} {k:Nat} (hk:k<l.length) (h:∀i,i<k->p (ab l i)=false) (hp:p (ab l k)=true):l.find? p=some (ab l k):=by
 rw[List.find?_eq_some_iff_getElem]
 refine⟨hp,k,hk,by simp[ab,hk],λj hj=>?_⟩
 have lY:j<l.length:=by omega
 have:=h j hj
 simpa[ab,lY] using this
theorem NW {α:Type} [Inhabited α] {p:α->Bool} {l:List α} {k:Nat} (hk:l.length<=k) (h:∀i,i<k->p (ab l i)=false):l.find? p=none:=by
 rw[List.find?_eq_none]
 intro x hx
 obtain⟨i,hi,rfl⟩:=gq hx
 rw[h i (by omega)];simp
theorem GV {a:Bool} {key:Int} (h:(a&&dp key)=true):0<=cQ key/\cQ key<3:=qF (by rw[Bool.and_eq_true] at h;exact h.2)
theorem XU {s:Server} {k:Nat} (pR:s.ao.length<80) (hk:k<s.waits.length) (h:∀i,i<k->ll s (ab s.waits i)=false) (hp:ll s (ab s.waits k)=true):eL s=k:=by
 unfold eL;rw[if_pos pR];exact nA hk h hp
theorem GW {s:Server} (h:s.ao.length<80->∀i,i<s.waits.length->ll s (ab s.waits i)=false):eL s<0:=by
 unfold eL
 split
 ·rename_i pR
  rw[mR (k:=s.waits.length) (Nat.le_refl _) (h pR)];omega
 ·omega
theorem qJ {α:Type} {p:α->Bool} {l:List α} {x:α} (h:x∈l.filter p):x∈l:=(List.mem_filter.1 h).1
theorem NX {l:List au} {d:au} (h:0<=fH l d):(fH l d).toNat<l.length:=by
 unfold fH cM at*
 split at h
 ·rename_i k hk
  obtain⟨h1,_⟩:=List.findIdx?_eq_some_iff_getElem.1 hk
  simpa using h1
 ·omega
theorem NY {m:aC} (h:bO m=true):dp m.key=true:=by
 simp only[bO,Bool.and_eq_true] at h;exact h.1.1.1.1.1.1.1.1.2
theorem qK {m:aC} (h:bO m=true):0<=m.slot/\m.slot<3:=by
 simp only[bO,Bool.and_eq_true,aQ,decide_eq_true_eq] at h;omega
theorem oB {m:aC} (h:bO m=true):cn m.ao=true/\cn m.waits=true/\gi m.aD=true/\bN m.aO=true:=by
 simp only[bO,Bool.and_eq_true] at h;exact⟨h.1.1.2,h.1.2,h.2,h.1.1.1.1.1.2⟩
theorem XV {s:Server} {v:aB} (h:ll s v=true):dX s v.key=1:=by
 unfold ll at h;rw[Bool.and_eq_true] at h;simpa using h.1
theorem XW {s:Server} {slot:Int} {y:dG} {key:Int} (h:cQ key≠slot) (h0:0<=slot) (hk:dp key=true):dX {s with aG:=s.aG.set slot.toNat y} key=dX s key:=by
 have hr:=qF hk
 unfold dX ab
 simp only[List.getD_eq_getElem?_getD]
 rw[List.getElem?_set_ne (by omega)]
theorem XX {s:Server} {slot:Int} {y:dG} {key:Int} (h:cQ key=slot) (h0:0<=slot) (h3:slot<s.aG.length):dX {s with aG:=s.aG.set slot.toNat y} key=y.dH:=by
 unfold dX ab
 simp only[List.getD_eq_getElem?_getD,h]
 rw[List.getElem?_set_self (by omega)];rfl
theorem w6 {s:Server} {key:Int} (h:gv s key=true):dp key=true/\dX s key=1:=by
 unfold gv at h;rw[Bool.and_eq_true] at h;exact⟨h.1,by simpa using h.2⟩
theorem AF {s:Server} {m:aC} (h:vi s m=true):cL m.aR=true/\bL m.aR≠bL s.site/\m.ao.length=1/\gv s (ab m.ao 0).key=true/\bL (ab m.ao 0).aq.site≠bL s.site:=by
 unfold vi at h
 simp only[Bool.and_eq_true,decide_eq_true_eq,bne_iff_ne] at h
 exact⟨h.1.1.1.1,h.1.1.1.2,h.1.1.2,h.1.2,h.2⟩
theorem w7 {s:Server} {slot:Int} (h:mZ s slot=true):s.up=true/\0<=slot/\slot<=2/\(ab s.aG slot.toNat).dH=1/\(ab s.aG slot.toNat).bz<9999:=by
 unfold mZ aQ at h
 simp only[Bool.and_eq_true,decide_eq_true_eq] at h
 exact⟨h.1.1.1,h.1.1.2.1,h.1.1.2.2,by simpa using h.1.2,h.2⟩
theorem tO {m:aC} (h1:1<=m.kind/\m.kind<=10) (h2:lB m.aR=true) (h3:lB m.to=true) (h4:0<=m.call/\m.call<=99) (h5:dp m.key=true) (h6:kx m.aq=true) (h7:0<=m.val/\m.val<=9999) (h8:bN m.aO=true) (h9:0<=m.slot/\m.slot<=2)
 (CH:0<=m.bz/\m.bz<=9999) (BS:cn m.ao=true) (GX:cn m.waits=true) (XY:gi m.aD=true):bO m=true:=by
 simp only[bO,Bool.and_eq_true,aQ,decide_eq_true_eq]
 exact⟨⟨⟨⟨⟨⟨⟨⟨⟨⟨⟨⟨h1,h2⟩,h3⟩,h4⟩,h5⟩,h6⟩,h7⟩,h8⟩,h9⟩,CH⟩,BS⟩,GX⟩,XY⟩
theorem m0 {n:Int}:cL n=true↔0<=n/\n<=3:=by simp[cL,aQ]
theorem GY:dp 0=true:=rfl
theorem GZ {n:Int} (h:cL n=true):bL n=n/2/\0<=bL n/\bL n<=1:=by
 have h1:=m0.1 h
 unfold bL
 rw[h,if_pos rfl]
 omega
theorem XZ {s:Server} {asked:List au} {d x:au} (h:x∈nK s asked d):x∈asked\/x=d:=by
 unfold nK at h
 split at h
 ·exact .inl h
 ·rcases List.mem_append.1 h with h|h
  ·exact .inl h
  ·exact .inr (by simpa using h)
theorem NZ {s:Server}:∀{l asked:List au} {x:au},x∈l.foldl (nK s) asked->x∈asked\/x∈l
 |[],_,_,h=>.inl h
 |d::r,asked,x,h=>by
  rcases NZ (l:=r) h with h|h
  ·rcases XZ h with h|h
   ·exact .inl h
   ·exact .inr (by simp[h])
  ·exact .inr (by simp[h])
theorem X0 {a b d:Answer} (h:gJ a b=true) (h':gJ b d=true):gJ a d=true:=by
 unfold gJ at*;rw[decide_eq_true_eq] at*;omega
theorem qL:∀{l:List Answer} {a x:Answer},x∈cR l a↔x=a\/x∈l
 |[],a,x=>by simp[cR]
 |e::r,a,x=>by
  unfold cR
  split
  ·simp
  ·rw[List.mem_cons,qL,List.mem_cons]
   constructor
   ·rintro(h|h|h)<;>simp[h]
   ·rintro(h|h|h)<;>simp[h]
theorem w8:∀(l:List Answer) (a:Answer),(cR l a).length=l.length+1
 |[],a=>rfl
 |e::r,a=>by unfold cR;split<;>simp[w8 r a]
theorem G0:∀{l:List Answer} {a:Answer},(l.Pairwise λa b=>gJ a b=true)->(∀x∈l,x.key≠a.key)->(cR l a).Pairwise λa b=>gJ a b=true
 |[],a,_,_=>by simp[cR]
 |e::r,a,h,hn=>by
  unfold cR
  rw[List.pairwise_cons] at h
  have he:=hn e (by simp)
  split
  ·rename_i hl
   rw[List.pairwise_cons]
   refine⟨λx hx=>?_,List.pairwise_cons.2 h⟩
   rcases List.mem_cons.1 hx with rfl|hx
   ·unfold gJ;rw[decide_eq_true_eq];exact hl
   ·have:=h.1 x hx;unfold gJ at*;rw[decide_eq_true_eq] at*;omega
  ·rename_i hl
   rw[List.pairwise_cons]
   refine⟨λx hx=>?_,G0 h.2 λx hx=>hn x (by simp[hx])⟩
   rcases qL.1 hx with rfl|hx
   ·unfold gJ;rw[decide_eq_true_eq];omega
   ·exact h.1 x hx
theorem N0 (l:List aB) (v:aB):(!dM v||decide (0<=placeOf l v.aT)||((l.length:Int)==80))=!(dM v&&decide (placeOf l v.aT<0)&&!decide (l.length=80)):=by
 have e:((l.length:Int)==80)=decide (l.length=80):=by rw[Bool.eq_iff_iff];simp;omega
 have e2:decide (0<=placeOf l v.aT)=!decide (placeOf l v.aT<0):=by rw[Bool.eq_iff_iff];simp
 rw[e,e2];simp
theorem N1 (s:Server) (v:aB):(((ab s.aG (cQ v.key).toNat).dH !=1)||!AE s v)=!ll s v:=by
 unfold ll dX
 simp only[bne]
 cases((ab s.aG (cQ v.key).toNat).dH==1)<;>simp
theorem N2 (s:Server) (m:aC):(!cL m.aR||(bL m.aR==bL s.site)||decide (fH s.aD ⟨m.key,m.aq⟩<0)||((ab s.aG (cQ m.key).toNat).dH !=1))=
 !(cL m.aR&&(bL m.aR !=bL s.site)&&decide (0<=fH s.aD ⟨m.key,m.aq⟩)&&(dX s m.key==1)):=by
 have e:decide (fH s.aD ⟨m.key,m.aq⟩<0)=!decide (0<=fH s.aD ⟨m.key,m.aq⟩):=by rw[Bool.eq_iff_iff];simp
 rw[e];simp[bne,dX]
theorem N3 (s:Server) (m:aC):(!cL m.aR||(bL m.aR==bL s.site)||((m.ao.length:Int) !=1)||!gv s (ab m.ao 0).key||(bL (ab m.ao 0).aq.site==bL s.site))=!vi s m:=by
 have e:((m.ao.length:Int) !=1)=!decide (m.ao.length=1):=by rw[Bool.eq_iff_iff];simp;omega
 unfold vi
 rw[e];simp[bne]
theorem AG {α:Type} {o:Option α} (h:(!o.isSome)=true):o=none:=by cases o;rfl;cases h
theorem AH {l:List aB} (h:cn l=true) (d:au):kz l d=dU l d:=by unfold kz dU;simp[h]
theorem C6 (s:Server) (m:aC):(!s.up||!bO m||(m.to !=s.site))=!(s.up&&bO m&&(m.to==s.site)):=by simp[bne]
theorem X1 (a b:Nat):decide ((a:Int)+b<=80)=decide (a+b<=80):=by rw[Bool.eq_iff_iff];simp;omega
def Server.X2 (s:Server) (x:AV):AV:=.agg [.int s.site,.bool s.up,uJ s.aG,bX s.ao,bX s.waits,bm s.aD,x]
theorem X3 (s:Server):(s.bl.filter λd=>!(!jy s d))=s.bl.filter (jy s):=by simp
theorem N4 {s:Server} (h:¬s.ao.length<80):eL s<0:=by unfold eL;rw[if_neg h];decide
theorem X4 {s:Server} (h:s.ao.length<80):eL s=cM (ll s) s.waits:=by unfold eL;rw[if_pos h]
def tP (s:Server) (k:Nat):List Nat:=(List.range k).filter λi=>(ab s.aG i).dH==2
theorem X5 {s:Server}:tP s s.aG.length=leaving s:=rfl
theorem X6 {s:Server} {k:Nat} (h:(ab s.aG k).dH=2):tP s (k+1)=tP s k++[k]:=by
 unfold tP;rw[List.range_succ,List.filter_append];simp[h]
theorem X7 {s:Server} {k:Nat} (h:¬(ab s.aG k).dH=2):tP s (k+1)=tP s k:=by
 unfold tP;rw[List.range_succ,List.filter_append];simp[h]
theorem X8 (s:Server) (k:Nat):(tP s k).length<=k:=by
 have:=List.length_filter_le (λi=>(ab s.aG i).dH==2) (List.range k)
 rw[List.length_range] at this;exact this
def nM (s:Server) (i:Nat):List au:=((s.waits.take i).map aB.aO).flatten.foldl (nK s) []
def jN (s:Server) (i j:Nat):List au:=((ab s.waits i).aO.take j).foldl (nK s) (nM s i)
theorem yy {s:Server} {i j:Nat} (h:j<(ab s.waits i).aO.length):jN s i (j+1)=nK s (jN s i j) (ab (ab s.waits i).aO j):=by
 unfold jN;rw[dW h,List.foldl_append];rfl
theorem G1 {s:Server} {i j:Nat} (h:i<s.waits.length) (hj:(ab s.waits i).aO.length<=j):jN s i j=nM s (i+1):=by
 unfold jN nM
 rw[List.take_of_length_le hj,dW h,List.map_append,List.flatten_append,List.foldl_append];simp
theorem G2 (s:Server) {i:Nat} (h:s.waits.length<=i):nM s i=wX s:=by unfold nM wX;rw[List.take_of_length_le h]
theorem X9 (s:Server) (l:List au) (d:au):(nK s l d).length<=l.length+1:=by unfold nK;split<;>simp
theorem N5 (s:Server):∀(l asked:List au),(l.foldl (nK s) asked).length<=asked.length+l.length
 |[],asked=>by simp
 |d::r,asked=>by have:=N5 s r (nK s asked d);have:=X9 s asked d;simp only[List.foldl_cons,List.length_cons];omega
theorem AI (s:Server) (i j:Nat):(jN s i j).length<=(nM s i).length+j:=by
 have h1:=N5 s ((ab s.waits i).aO.take j) (nM s i)
 have h2:((ab s.waits i).aO.take j).length<=j:=by simp;omega
 unfold jN;omega
theorem N6 {s:Server} {l:List au} {d:au} (h:(!mX s d&&decide (fH l d<0))=false):nK s l d=l:=by
 unfold nK;rw[if_pos]
 rw[Bool.or_eq_true,decide_eq_true_eq]
 rw[Bool.and_eq_false_iff,Bool.not_eq_false',decide_eq_false_iff_not] at h
 rcases h with h|h
 ·exact .inl h
 ·exact .inr (by omega)
theorem C7 {s:Server} {l:List au} {d:au} (h:(!mX s d&&decide (fH l d<0))=true):nK s l d=l++[d]:=by
 unfold nK;rw[if_neg]
 rw[Bool.or_eq_true,decide_eq_true_eq]
 rw[Bool.and_eq_true,Bool.not_eq_true',decide_eq_true_eq] at h
 rw[h.1];simp;omega
theorem N7 (s:Server) (slot:Int):(!s.up||!aQ slot 0 2||((ab s.aG slot.toNat).dH !=1)||decide (9999<=(ab s.aG slot.toNat).bz))=!mZ s slot:=by
 have e:decide (9999<=(ab s.aG slot.toNat).bz)=!decide ((ab s.aG slot.toNat).bz<9999):=by rw[Bool.eq_iff_iff];simp
 unfold mZ
 rw[e];simp[bne]
theorem N8 {s:Server} {slot:Int} (he:aQ slot 0 2=true->(ab s.aG slot.toNat).bz<=9999):(!s.up||!aQ slot 0 2||((ab s.aG slot.toNat).dH !=1)||((ab s.aG slot.toNat).bz==9999))=!mZ s slot:=by
 unfold mZ
 cases h:aQ slot 0 2
 ·simp
 ·have:=he h
  have e:((ab s.aG slot.toNat).bz==9999)=!decide ((ab s.aG slot.toNat).bz<9999):=by rw[Bool.eq_iff_iff];simp;omega
  rw[e];simp[bne]
theorem N9 {s:Server} {m:aC} (ho:(cL m.aR&&(bL m.aR !=bL s.site))=true):(((m.ao.length:Int) !=1)||!gv s (ab m.ao 0).key||!(bL (ab m.ao 0).aq.site !=bL s.site))=!vi s m:=by
 have e:((m.ao.length:Int) !=1)=!decide (m.ao.length=1):=by rw[Bool.eq_iff_iff];simp;omega
 unfold vi
 rw[e,ho];simp
theorem Oa (x:Bool) (n:Int):(x&&!decide (0<=n))=(x&&decide (n<0)):=by
 have e:(!decide (0<=n))=decide (n<0):=by rw[Bool.eq_iff_iff];simp
 rw[e]
def Call.yx (q:Call) (g n:Value):AV:=.agg [AV.int q.an,AV.int q.num,AV.int q.kind,jg q.keys,AV.int q.val,bm q.ctx,AV.int q.bD,AV.int q.end_,AV.bool q.over,AV.int q.aq.time,AV.int q.aq.site,.val g,.val n]
def Call.yz (q:Call) (n:Value):AV:=.agg [AV.int q.an,AV.int q.num,AV.int q.kind,jg q.keys,AV.int q.val,bm q.ctx,AV.int q.bD,AV.int q.end_,AV.bool q.over,AV.int q.aq.time,AV.int q.aq.site,qj q.az,.val n]
def aE.Ya (w:aE) (r:Value×Value×Value×Value):AV:=.agg [.int w.time,.val r.1,.val r.2.1,.val r.2.2.1,.val r.2.2.2]
def aE.Ob (w:aE) (r:Value×Value×Value×Value):List Own:=[Own.row r.1 61 7 (w.ax.map Server.cells),Own.row r.2.1 70 15 (w.ar.map aC.cells),Own.row r.2.2.1 39 13 (w.calls.map Call.cells),Own.row r.2.2.2 34 1 (w.seen.map fE)]
theorem Yb (q:Call) (n:Value):
 Fn Tryz.prog 83 [q.yz n] (AV.bool (pP q)):=by
 refine Fn.go 10 Tryz.func83 Tryz.ntmps83 (λW I a U=>?_)
 refine wu λI a w U=>?_
 refine U.rt ?_
 rfl
theorem Yc (l:List aB):
 Fn Tryz.prog 274 [bX l] (AV.fn 278 [AV.ptr [bX l]]):=by
 refine Fn.go 4 Tryz.func274 Tryz.ntmps274 (λW I a U=>?_)
 refine zt ?_
 refine U.o (xL .tt (by first|exact jR rfl|exact j0|exact j1|exact j6)) λU=>?_
 refine ai λI a w U=>?_
 refine U.o (mN (aw .tt aL)) λU=>?_
 refine ai λI a w U=>?_
 refine U.rt ?_
 rfl
abbrev tQ (l:List aB) (I0:Im):={x:Nat×Value//x.1<l.length/\(ab l x.1).av.h I0 x.2}
def vj {l:List aB} {I0:Im} (xs:List (tQ l I0)):Prop:=∀j x,xs[j]?=some x->x.1.1+1+j=l.length
theorem Yd {a b c:Bool} (h:(a&&c)=true) (k:b=true):(a&&b&&c)=true:=by rw[Bool.and_right_comm,h,k];rfl
theorem Oc (x:Int):ff (x-10)=aQ x 10 11:=by
 unfold ff aQ;rw[Bool.eq_iff_iff];simp;omega
theorem Od {s:Server} {m:aC} (h:(m.kind==5&&(cL m.aR&&(bL m.aR !=bL s.site)))=true):m.kind=5/\(cL m.aR&&(bL m.aR !=bL s.site))=true:=by
 rw[Bool.and_eq_true,beq_iff_eq] at h;exact h
theorem yA {m:aC} {k:Int} {b:Bool} (h:(m.kind==k&&b)=false) (hk:m.kind=k):b=false:=by rw[hk,beq_self_eq_true,Bool.true_and] at h;exact h
theorem Ye {e:Ev} (h3:(!aQ e.kind 6 9||!cL e.at_)=false):cL e.at_=true:=by simp at h3;exact h3.2
def yB:Nat->List Server
 |0=>[]
 |k+1=>yB k++[wY k]
theorem G3:∀k,(yB k).length=k
 |0=>rfl
 |k+1=>by show(yB k++[wY k]).length=_;rw[List.length_append,G3 k];rfl
theorem Yf {n:Int} (h:cL n=true):aQ n 10 11=false:=by
 have:=m0.1 h
 unfold aQ
 rw[Bool.and_eq_false_iff,decide_eq_false_iff_not,decide_eq_false_iff_not];omega
theorem Yg {x:aE} {e:Ev} (h:((ab x.ax e.at_.toNat).up==(e.kind==7))=false) (h7:e.kind=7):(ab x.ax e.at_.toNat).up=false:=by
 rw[h7] at h;simpa using h
def G4 (x:UInt8):List AV:=[AV.byte x]
def bE (l:List UInt8):AV:=.rows 1 (l.map G4)
theorem Yh (code:List UInt8) (bB:code.length<=1099511627776):
 c7 Tryz.prog 38 [bE code] [] (λr:Nat×List UInt8=>r.2.length<=1099511627776) (λr=>[Own.box r.1 95 [bE r.2,AV.int (0)]]) (λr=>AV.val (.pointer (some ⟨r.1,0,none⟩))):=by
 refine c7.intro 11 Tryz.func38 rfl Tryz.ntmps38 rfl (by kernel_rfl) (λW I a U=>?_)
 refine bH λI a w U=>?_
 refine nn ?_
 refine St.cut (σ:=List UInt8) (0::(run 5 3 [])) ⟨λcd=>[(0,bE cd)],λcd=>[],λcd=>cd.length<=1099511627776⟩ U ?G5 ?G6
 case G5=>
  refine aI λI a w U=>?_
  refine nw (λae=>?_) λae=>?_
  ·refine bH λI a w U=>?_
   refine U.o (te uS uQ .r .c (λ_=>by rw[List.length_map];omega)) λU=>?_
   refine ai λI a w U=>?_
   refine U.meet (code.take 2000) ?Yi (by rfl) ?Yj (by repeat(first|exact Env.BH|refine Env.jf rfl ?_))
   case Yi=>first|exact bB|(simp;omega)
   case Yj=>exact(Env.dK rfl (by first|rfl|(unfold bE;rw[List.map_take];rfl)) Env.le_nil)
  ·refine zt ?_
   refine U.meet code ?Yk (by rfl) ?Yl (by repeat(first|exact Env.BH|refine Env.jf rfl ?_))
   case Yk=>first|exact bB|(simp;omega)
   case Yl=>exact(Env.dK rfl (by first|rfl|(unfold bE;rw[List.map_take];rfl)) Env.le_nil)
 case G6=>
  rintro cd I a w aj U
  have jO:cd.length<=1099511627776:=aj
  refine bH λI a w U=>?_
  refine U.o (.bd Vh (.k bf.nil)) λU=>?_
  refine U.box rfl .tt λlN I a w U=>?_
  refine ai λI a w U=>?_
  refine U.de (lN,cd) [0] rfl (.cons (.t rfl) .nil) jO rfl rfl
theorem tT (l:List au):
 Fn Tryz.prog 30 [bm l,bm l] (AV.bool true):=by
 refine Fn.go 26 Tryz.func30 Tryz.ntmps30 (λW I a U=>?_)
 have hle:=U.cW (t:=0) rfl
 refine jj λI a w U=>?_
 refine U.cd (λae=>?_) λae=>?_
 ·exfalso;simp at ae
  skip
 ·refine ai λI a w U=>?_
  refine St.lo (σ:=Nat) (run 2 4 (run 15 11 [])) ⟨λk=>[(5,AV.int k)],λk=>[],λk=>k<=l.length⟩ (λk=>l.length-k) 0 U ?aJ ?aK
  case aJ=>exact Nat.zero_le _
  case aK=>
   rintro k I a w aj U
   have hk:k<=l.length:=aj
   refine aU λI a w U=>?_
   refine cz (λah=>?_) λah=>?_
   ·refine zt ?_
    refine U.dk ?_
    refine nx ?_
    refine .o (uG [_,_,_] [_,_,_] uT rfl rfl .tt .tt)<|.nil ?_
    intro I a w U
    refine aY ?_
    refine U.cd (λal=>?_) λal=>?_
    ·exfalso;simp at al
     skip
    ·refine aI λI a w U=>?_
     exact U.ag (k+1) (ah)
   ·refine zt ?_
    refine ai λI a w U=>?_
    refine U.rt ?_
    rfl
theorem G7 (v:aB):
 Fn Tryz.prog 56 [v.av,v.av] (AV.bool true):=by
 refine Fn.go 45 Tryz.func56 Tryz.ntmps56 (λW I a U=>?_)
 refine wq λI a w U=>?_
 refine U.q .T (mM [_,_] [_,_] og rfl rfl .ag .ag) λU=>?_
 refine UO λI a w U=>?_
 refine U.q .T (.cl (tT ..)) λU=>?_
 refine aA λI a w U=>?_
 refine U.rt ?_
 exact bG (by simp)
theorem C8 (l:List aB):
 Fn Tryz.prog 75 [bX l,bX l] (AV.bool true):=by
 refine Fn.go 27 Tryz.func75 Tryz.ntmps75 (λW I a U=>?_)
 have hle:=U.cW (t:=0) rfl
 refine jj λI a w U=>?_
 refine U.cd (λae=>?_) λae=>?_
 ·exfalso;simp at ae
  skip
 ·refine ai λI a w U=>?_
  refine St.lo (σ:=Nat) (run 2 4 (run 16 11 [])) ⟨λk=>[(5,AV.int k)],λk=>[],λk=>k<=l.length⟩ (λk=>l.length-k) 0 U ?aJ ?aK
  case aJ=>exact Nat.zero_le _
  case aK=>
   rintro k I a w aj U
   have hk:k<=l.length:=aj
   refine aU λI a w U=>?_
   refine cz (λah=>?_) λah=>?_
   ·refine zt ?_
    refine U.dk ?_
    refine nx ?_
    refine .o (.c2 (G7 (ab l k))) ?_
    refine bn ?_
    refine .nil ?_
    intro I a w U
    refine aY ?_
    refine U.cd (λal=>?_) λal=>?_
    ·exfalso;simp at al
     skip
    ·refine aI λI a w U=>?_
     exact U.ag (k+1) (ah)
   ·refine zt ?_
    refine ai λI a w U=>?_
    refine U.rt ?_
    rfl
theorem Ym (m:aC):
 Fn Tryz.prog 74 [m.av,m.av] (AV.bool true):=by
 refine Fn.go 101 Tryz.func74 Tryz.ntmps74 (λW I a U=>?_)
 refine FV λI a w U=>?_
 refine xZ λI a w U=>?_
 refine U.q .T (mM [_,_] [_,_] og rfl rfl .ag .ag) λU=>?_
 refine wq λI a w U=>?_
 refine U.q .T (KQ .ag .ag x6) λU=>?_
 refine UK λI a w U=>?_
 refine U.q .T (.cl (tT ..)) λU=>?_
 refine dD λI a w U=>?_
 refine U.q .T (.cl (C8 ..)) λU=>?_
 refine dD λI a w U=>?_
 refine U.q .T (.cl (C8 ..)) λU=>?_
 refine dD λI a w U=>?_
 refine U.q .T (.cl (tT ..)) λU=>?_
 refine aA λI a w U=>?_
 refine U.rt ?_
 exact bG (by simp)
theorem Yn (l:List aC):
 Fn Tryz.prog 45 [bq l,bq l] (AV.bool true):=by
 refine Fn.go 27 Tryz.func45 Tryz.ntmps45 (λW I a U=>?_)
 have hle:=U.cW (t:=0) rfl
 refine jj λI a w U=>?_
 refine U.cd (λae=>?_) λae=>?_
 ·exfalso;simp at ae
  skip
 ·refine ai λI a w U=>?_
  refine St.lo (σ:=Nat) (run 2 4 (run 16 11 [])) ⟨λk=>[(5,AV.int k)],λk=>[],λk=>k<=l.length⟩ (λk=>l.length-k) 0 U ?aJ ?aK
  case aJ=>exact Nat.zero_le _
  case aK=>
   rintro k I a w aj U
   have hk:k<=l.length:=aj
   refine aU λI a w U=>?_
   refine cz (λah=>?_) λah=>?_
   ·refine zt ?_
    refine U.dk ?_
    refine nx ?_
    refine .o (.c2 (Ym (ab l k))) ?_
    refine bn ?_
    refine .nil ?_
    intro I a w U
    refine aY ?_
    refine U.cd (λal=>?_) λal=>?_
    ·exfalso;simp at al
     skip
    ·refine aI λI a w U=>?_
     exact U.ag (k+1) (ah)
   ·refine zt ?_
    refine ai λI a w U=>?_
    refine U.rt ?_
    rfl
theorem Yo (s:Server) (hl:s.aG.length<=1048576):
 Fn Tryz.prog 46 [s.av,s.av] (AV.bool true):=by
 refine Fn.go 77 Tryz.func46 Tryz.ntmps46 (λW I a U=>?_)
 refine wq λI a w U=>?_
 refine U.q .F (E9 .ag .ag x6) λU=>?_
 refine Ck λI a w U=>?_
 refine U.q .F (.cl (C8 ..)) λU=>?_
 refine gz λI a w U=>?_
 refine U.q .F (.cl (C8 ..)) λU=>?_
 refine gz λI a w U=>?_
 refine U.q .F (.cl (tT ..)) λU=>?_
 refine gz λI a w U=>?_
 refine U.q .F (.cl (tT ..)) λU=>?_
 refine aA λI a w U=>?_
 refine U.cd (λae=>?_) λae=>?_
 ·exfalso;simp at ae
  skip
 ·refine ai λI a w U=>?_
  refine St.lo (σ:=Nat) (run 2 4 (run 18 59 [])) ⟨λk=>[(5,AV.int k)],λk=>[],λk=>k<=s.aG.length⟩ (λk=>s.aG.length-k) 0 U ?aJ ?aK
  case aJ=>exact Nat.zero_le _
  case aK=>
   rintro k I a w aj U
   have hk:k<=s.aG.length:=aj
   refine ck λI a w U=>?_
   refine cz (λah=>?_) λah=>?_
   ·refine zt ?_
    refine U.dk ?_
    refine oY ?_
    refine .o (uG [_,_] [_,_] L4 rfl rfl .tt .tt)<|.nil ?_
    intro I a w U
    refine aY ?_
    refine U.cd (λal=>?_) λal=>?_
    ·exfalso;simp at al
     skip
    ·refine aI λI a w U=>?_
     exact U.ag (k+1) (ah)
   ·refine zt ?_
    refine ai λI a w U=>?_
    refine U.rt ?_
    rfl
theorem Yp (l:List Answer):
 Fn Tryz.prog 76 [qj l,qj l] (AV.bool true):=by
 refine Fn.go 55 Tryz.func76 Tryz.ntmps76 (λW I a U=>?_)
 have hle:=U.cW (t:=0) rfl
 refine jj λI a w U=>?_
 refine U.cd (λae=>?_) λae=>?_
 ·exfalso;simp at ae
  skip
 ·refine ai λI a w U=>?_
  refine St.lo (σ:=Nat) (run 2 4 (run 44 11 [])) ⟨λk=>[(5,AV.int k)],λk=>[],λk=>k<=l.length⟩ (λk=>l.length-k) 0 U ?aJ ?aK
  case aJ=>exact Nat.zero_le _
  case aK=>
   rintro k I a w aj U
   have hk:k<=l.length:=aj
   refine aU λI a w U=>?_
   refine cz (λah=>?_) λah=>?_
   ·refine zt ?_
    refine U.dk ?_
    refine lG ?_
    refine fK ?_
    refine .q .F (E9 .ag .ag x6) ?_
    refine wv ?_
    refine .q .F (.cl (G7 ..)) ?_
    refine bT ?_
    refine .nil ?_
    intro I a w U
    refine aY ?_
    refine U.cd (λal=>?_) λal=>?_
    ·exfalso;simp at al
     skip
    ·refine aI λI a w U=>?_
     exact U.ag (k+1) (ah)
   ·refine zt ?_
    refine ai λI a w U=>?_
    refine U.rt ?_
    rfl
theorem Yq (q:Call) (hl:q.keys.length<=1048576):
 Fn Tryz.prog 47 [q.av,q.av] (AV.bool true):=by
 refine Fn.go 111 Tryz.func47 Tryz.ntmps47 (λW I a U=>?_)
 refine FV λI a w U=>?_
 refine UJ λI a w U=>?_
 refine U.q .F (E9 .ag .ag x6) λU=>?_
 refine dD λI a w U=>?_
 refine U.q .F (uG [_,_] [_,_] og rfl rfl .ag .ag) λU=>?_
 refine Ck λI a w U=>?_
 refine U.q .F (.cl (tT ..)) λU=>?_
 refine gz λI a w U=>?_
 refine U.q .F (.cl (tT ..)) λU=>?_
 refine gz λI a w U=>?_
 refine U.q .F (.cl (Yp ..)) λU=>?_
 refine aA λI a w U=>?_
 refine U.cd (λae=>?_) λae=>?_
 ·exfalso;simp at ae
  skip
 ·refine ai λI a w U=>?_
  refine St.lo (σ:=Nat) (run 2 4 (run 18 93 [])) ⟨λk=>[(5,AV.int k)],λk=>[],λk=>k<=q.keys.length⟩ (λk=>q.keys.length-k) 0 U ?aJ ?aK
  case aJ=>exact Nat.zero_le _
  case aK=>
   rintro k I a w aj U
   have hk:k<=q.keys.length:=aj
   refine ck λI a w U=>?_
   refine cz (λah=>?_) λah=>?_
   ·refine ai λI a w U=>?_
    refine U.cd (λal=>?_) λal=>?_
    ·exfalso;simp at al
     skip
    ·refine aI λI a w U=>?_
     exact U.ag (k+1) (ah)
   ·refine zt ?_
    refine ai λI a w U=>?_
    refine U.rt ?_
    rfl
theorem Oe {m:aC} (h:bO m=true):m.slot.toNat<3:=by have:=qK h;omega
theorem Of {key:Int} (h:dp key=true):0<=cQ key/\cQ key<=2:=by
 have:=GO.1 h
 unfold cQ;rw[if_pos h];omega
theorem C9 {i:Nat} (hi:i<4):bL (i:Int)=((i/2:Nat):Int):=by
 have h:cL (i:Int)=true:=m0.2 (by omega)
 unfold bL;rw[h,if_pos rfl];omega
theorem yC {n:Int} (h:cL n=true):n.toNat<4/\bL n=((n.toNat/2:Nat):Int)/\(n/2).toNat=n.toNat/2/\((n.toNat:Nat):Int)=n:=by
 have h1:=m0.1 h
 unfold bL;rw[h,if_pos rfl];omega
theorem Yr {l:List au} {d:au} (h:0<=fH l d):ab l (fH l d).toNat=d:=by
 unfold fH cM at*
 split at h
 ·rename_i k hk
  obtain⟨h1,h2,_⟩:=List.findIdx?_eq_some_iff_getElem.1 hk
  simpa[ab,h1] using h2
 ·omega
theorem G8:∀{l:List au} {d x:au},x∈fN l d->x=d\/x∈l
 |[],d,x,h=>by simpa[fN] using h
 |e::r,d,x,h=>by
  unfold fN at h
  split at h
  ·split at h
   ·rcases List.mem_cons.1 h with h|h
    ·exact .inl h
    ·exact .inr (List.mem_cons_of_mem _ h)
   ·exact .inr h
  ·split at h
   ·rcases List.mem_cons.1 h with h|h
    ·exact .inl h
    ·exact .inr h
   ·rcases List.mem_cons.1 h with h|h
    ·exact .inr (by rw[h];exact List.mem_cons_self ..)
    ·rcases G8 h with h|h
     ·exact .inl h
     ·exact .inr (List.mem_cons_of_mem _ h)
theorem Og:∀{b a:List au} {x:au},x∈iK a b->x∈a\/x∈b
 |[],a,x,h=>.inl h
 |d::r,a,x,h=>by
  rcases Og (b:=r) (a:=fN a d) h with h|h
  ·rcases G8 h with h|h
   ·exact .inr (by rw[h];exact List.mem_cons_self ..)
   ·exact .inl h
  ·exact .inr (List.mem_cons_of_mem _ h)
theorem Oh:∀{l:List Answer} {D:List au},(∀a∈l,a.yes=false)->l.foldl l9 D=D
 |[],_,_=>rfl
 |a::r,D,h=>by
  rw[List.foldl_cons]
  have e:l9 D a=D:=by unfold l9;rw[h a (by simp)];simp
  rw[e];exact Oh λx hx=>h x (by simp[hx])
section
variable {P:Program} {H:Type} {enc:TypeId×Value->H} {W:World}
theorem Ys {t:TypeId} (ht:P.underlying t=some (.int .u8)):Ak enc P W G4 (λ_=>True) t:=λn cs x h=>by
 obtain⟨k,rfl,_,hw⟩:=DataW.trod_int ht h
 simp only[Lit.wf,Bool.and_eq_true,decide_eq_true_eq] at hw
 have h0:0<=k:=hw.1
 have h1:k<=255:=hw.2
 refine⟨UInt8.ofNat k.toNat,⟨⟨?_,rfl⟩,trivial⟩,trivial⟩
 show Value.int .u8 k=Value.int .u8 ((UInt8.ofNat k.toNat).toNat:Int)
 rw[UInt8.toNat_ofNat']
 congr 1
 omega
end
theorem mn {H:Type} {enc:TypeId×Value->H} {W:World}:Ak enc Tryz.prog W (λl:List UInt8=>[bE l]) (λl=>∀y∈l,True) 22:=
 Wh (t:=22) (sz:=1) (cf:=G4) (by kernel_rfl) (by kernel_rfl) (by decide) (λ_=>rfl) (Ys (t:=5) (by kernel_rfl))
theorem Da (l:List aB) (key:Int) (st:cw):
 Fn Tryz.prog 29 [bX l,AV.int key,st.av] (AV.dx [((dU l ⟨key,st⟩).getD default).av,AV.bool (dU l ⟨key,st⟩).isSome]):=by
 refine Fn.go 36 Tryz.func29 Tryz.ntmps29 (λW I a U=>?_)
 have hle:=U.cW (t:=0) rfl
 refine bH λI a w U=>?_
 refine U.alloc rfl bA dE λb6 I a w U=>?_
 refine aA λI a w U=>?_
 refine St.lo (σ:=Nat) (run 28 7 []) ⟨λk=>[(8,AV.int k)],λk=>[Own.box b6 43 [AV.val (.int .i64 0),AV.val (.int .i64 0),AV.val (.int .i64 0),AV.val (.int .i64 0),AV.val (.int .i64 0),AV.val (.int .i64 0),AV.rows 3 []]],λk=>k<=l.length/\∀i,i<k->l6 ⟨key,st⟩ (ab l i)=false⟩ (λk=>l.length-k) 0 U ?aJ ?aK
 case aJ=>exact⟨Nat.zero_le _,λi hi=>by omega⟩
 case aK=>
  rintro k I a w aj U
  obtain⟨hk,aN⟩:=aj
  refine aU λI a w U=>?_
  refine cz (λae=>?_) λae=>?_
  ·refine zt ?_
   refine U.dk ?_
   refine qn ?_
   refine .q .T (mM [_,_] [_,_] og rfl rfl .ag .ag) ?_
   refine bn ?_
   refine .nil ?_
   intro I a w U
   refine aY ?_
   refine U.cd (λah=>?_) λah=>?_
   ·rw[CB] at ah
    refine jj λI a w U=>?_
    refine U.ret rfl (.cons (.sx 0) (.cons (.t rfl) aX.nil)) ?_
    exact(by rw[XP ae aN ah];rfl)
   ·rw[CB] at ah
    refine aI λI a w U=>?_
    exact U.ag (k+1) (⟨ae,λi h1=>by rcases Nat.lt_succ_iff_lt_or_eq.1 h1 with h|h;exact aN i h;rw[h];exact ah⟩)
  ·refine zt ?_
   refine U.o (.bd dE bf.nil) λU=>?_
   refine aA λI a w U=>?_
   refine U.ret rfl (.cons (.sx 0) (.cons (.t rfl) aX.nil)) ?_
   exact(by rw[XQ (by omega) aN];rfl)
theorem G9 {l:List aB} {d:au} {v:aB} (h:dU l d=some v):Fn Tryz.prog 29 [bX l,AV.int d.key,d.aq.av] (AV.dx [v.av,AV.bool true]):=by
 have:=Da l d.key d.aq
 rw[show(⟨d.key,d.aq⟩:au)=d from rfl,h] at this;exact this
end Go.Proofs.YtjepcfpkclegdaaGreat
