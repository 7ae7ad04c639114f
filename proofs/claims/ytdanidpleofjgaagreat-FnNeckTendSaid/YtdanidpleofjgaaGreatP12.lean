/- Part 12: contracts of functions, plain facts. -/
import Derived.Test.YtdanidpleofjgaaGreatP10
set_option linter.all false
set_option maxRecDepth 100000
set_option maxHeartbeats 4000000
namespace Go.Proofs.YtdanidpleofjgaaGreat
open Go Go.RowKit Tryz
attribute [local irreducible] wpList Code.wp Ok
def Hl (l:List ao) (k:Nat):(!df (ab l k).key||!dr (ab l k).ar||(decide (0<(k:Int))&&!ee (ab l ((k:Int)-1).toNat) (ab l k)))=!eQ lf ee l k:=by
 rw[<-uy];simp[lf]
def OF (l:List ao) (k:Nat):(!df (ab l k).key||!dr (ab l k).ar||(decide (0<(k:Int))&&(decide ((ab l k).key<(ab l ((k:Int)-1).toNat).key)||((ab l ((k:Int)-1).toNat).key==(ab l k).key&&!ck (ab l ((k:Int)-1).toNat).ar (ab l k).ar))))=!eQ lf ee l k:=by
 rw[<-Hl];congr 2;generalize ab l ((k:Int)-1).toNat=p;generalize ab l k=q;simp only[ee];rcases Int.lt_trichotomy p.key q.key with h|h|h
 .have h1:¬q.key<p.key:=by omega
  have h2:(p.key==q.key)=false:=by simp;omega
  simp[h,h1,h2]
 .simp[h]
 have h1:¬p.key<q.key:=by omega
 have h2:(p.key==q.key)=false:=by simp;omega
 simp[h,h1,h2]
def Hm (l:List ao):
 Fn prog 92 [bw l] (AV.bool (fY l)):=by
 refine Fn.go 66 func92 ntmps92 (λW I a U=>?_);have hle:=U.dE (t:=0) rfl;refine aY λI a w U=>?_;refine cz (λae=>?_) λae=>?_
 .refine bc ?_;exact bF (by simp[fY];omega)
 refine ax λI a w U=>?_;refine St.lo (σ:=Nat) (run 3 2 (run 58 8 [])) ⟨λk=>[(3,AV.int k)],λk=>[],λk=>k<=l.length/\∀i,i<k->(eQ lf ee l) i=true⟩ (λk=>l.length-k) 0 U ?aL ?bG;case aL=>exact⟨by simp,λi hi=>by omega⟩
 rintro k I a w al U;obtain⟨hk,aT⟩:=al;refine aY λI a w U=>?_;refine cz (λah=>?_) λah=>?_
 .refine bz λI a w U=>?_;refine U.alloc rfl cE fh λb4 I a w U=>?_;refine ax λI a w U=>?_;obtain⟨I,U⟩:=U.fb 0 4;refine U.dk ?_;refine cj ?_;refine .o (.c1 (uH ..)) ?_;refine dM ?_;refine .q .F (.cl (wv ..)) ?_;refine nd ?_;refine nd ?_;refine cj ?_;refine .q .T2 (.cl (wx ..)) ?_;refine fD ?_;refine .nil ?_;intro I a w U;refine bk ?_;refine U.cd (λaj=>?_) λaj=>?_
  .rw[OF] at aj;replace aj:=nt aj;refine bc ?_;exact bF (by unfold fY;rw[fN (f:=(eQ lf ee l)) ah aj];simp)
  rw[OF] at aj;replace aj:=nf aj;refine aN λI a w U=>?_;have U:=U.drop 0;exact U.ag (k+1) (⟨by omega,gO aT aj⟩)
 refine zt ?_;refine bc ?_;exact bF (by unfold fY;rw[fJ aT om,Bool.and_true];simp;omega)
def uJ (n:Int):
 Fn prog 193 [AV.int n] (AV.int (cW n)):=by
 refine Fn.go 9 func193 ntmps193 (λW I a U=>?_);refine aH λI a w U=>?_;refine U.o (.c1 (uH ..)) λU=>?_;refine ax λI a w U=>?_;refine cz (λae=>?_) λae=>?_
 .refine bc ?_;exact fM (by simp[cW,ae])
 refine bA λI a w U=>?_;refine U.o (m6 .tt .c (λ_=>by simp[df,aS] at ae;omega)) λU=>?_;refine U.o (vR .tt .c (λ_=>by simp[df,aS] at ae;omega)) λU=>?_;refine bc ?_;exact fM (by simp[cW,ae])
def bB {α:Type} [Inhabited α] {l:List α} {k:Nat} (h:k<l.length):ab l k∈l:=by
 unfold ab;rw[List.getD_eq_getElem?_getD,List.getElem?_eq_getElem h];exact List.getElem_mem _
def Yj {α:Type} (p:α->Bool) (l:List α):dm p l<(l.length:Int)\/dm p l=-1:=by
 unfold dm;split
 .rename_i k h;have:=(List.findIdx?_eq_some_iff_getElem.1 h).1;left;omega
 right;rfl
def Hn (l:List (aE)) (p:(aE)->Bool) (fv:AV) (hf:∀x:aE,x∈l->lD prog fv [x.av] (AV.bool (p x))):
 Fn prog 167 [bQ l,fv] (AV.int (dm p l)):=by
 refine Fn.go 19 func167 ntmps167 (λW I a U=>?_);have hle:=U.dE (t:=0) rfl;refine aY λI a w U=>?_;refine St.lo (σ:=Nat) (run 2 4 (run 11 8 [])) ⟨λk=>[(8,AV.int k)],λk=>[],λk=>k<=l.length/\∀i,i<k->p (ab l i)=false⟩ (λk=>l.length-k) 0 U ?aL ?bG;case aL=>exact⟨Nat.zero_le _,λi hi=>by omega⟩
 rintro k I a w al U;obtain⟨hk,aT⟩:=al;refine ax λI a w U=>?_;refine cz (λae=>?_) λae=>?_
 .refine fo λI a w U=>?_;refine U.o (yi (hf _ (bB ae)) .tt (ai .tt aC)) λU=>?_;refine zt ?_;refine U.cd (λah=>?_) λah=>?_
  .refine di ?_;exact fM (ng ae aT ah).symm
  refine aB λI a w U=>?_;exact U.ag (k+1) (⟨ae,λi h1=>by rcases Nat.lt_succ_iff_lt_or_eq.1 h1 with h|h;exact aT i h;rw[h];exact ah⟩)
 refine zt ?_;refine bc ?_;exact fM (mF om aT).symm
def Yk (l:List (ao)) (p:(ao)->Bool) (fv:AV) (hf:∀x:ao,x∈l->lD prog fv [x.av] (AV.bool (p x))):
 Fn prog 209 [bw l,fv] (AV.int (dm p l)):=by
 refine Fn.go 19 func209 ntmps209 (λW I a U=>?_);have hle:=U.dE (t:=0) rfl;refine aY λI a w U=>?_;refine St.lo (σ:=Nat) (run 2 4 (run 11 8 [])) ⟨λk=>[(8,AV.int k)],λk=>[],λk=>k<=l.length/\∀i,i<k->p (ab l i)=false⟩ (λk=>l.length-k) 0 U ?aL ?bG;case aL=>exact⟨Nat.zero_le _,λi hi=>by omega⟩
 rintro k I a w al U;obtain⟨hk,aT⟩:=al;refine ax λI a w U=>?_;refine cz (λae=>?_) λae=>?_
 .refine fo λI a w U=>?_;refine U.o (yi (hf _ (bB ae)) .tt (ai .tt aC)) λU=>?_;refine zt ?_;refine U.cd (λah=>?_) λah=>?_
  .refine di ?_;exact fM (ng ae aT ah).symm
  refine aB λI a w U=>?_;exact U.ag (k+1) (⟨ae,λi h1=>by rcases Nat.lt_succ_iff_lt_or_eq.1 h1 with h|h;exact aT i h;rw[h];exact ah⟩)
 refine zt ?_;refine bc ?_;exact fM (mF om aT).symm
def OG (l:List (Answer)) (p:(Answer)->Bool) (fv:AV) (hf:∀x:Answer,x∈l->lD prog fv [x.av] (AV.bool (p x))):
 Fn prog 228 [oN l,fv] (AV.int (dm p l)):=by
 refine Fn.go 19 func228 ntmps228 (λW I a U=>?_);have hle:=U.dE (t:=0) rfl;refine aY λI a w U=>?_;refine St.lo (σ:=Nat) (run 2 4 (run 11 8 [])) ⟨λk=>[(8,AV.int k)],λk=>[],λk=>k<=l.length/\∀i,i<k->p (ab l i)=false⟩ (λk=>l.length-k) 0 U ?aL ?bG;case aL=>exact⟨Nat.zero_le _,λi hi=>by omega⟩
 rintro k I a w al U;obtain⟨hk,aT⟩:=al;refine ax λI a w U=>?_;refine cz (λae=>?_) λae=>?_
 .refine fo λI a w U=>?_;refine U.o (yi (hf _ (bB ae)) .tt (ai .tt aC)) λU=>?_;refine zt ?_;refine U.cd (λah=>?_) λah=>?_
  .refine di ?_;exact fM (ng ae aT ah).symm
  refine aB λI a w U=>?_;exact U.ag (k+1) (⟨ae,λi h1=>by rcases Nat.lt_succ_iff_lt_or_eq.1 h1 with h|h;exact aT i h;rw[h];exact ah⟩)
 refine zt ?_;refine bc ?_;exact fM (mF om aT).symm
def pL (key:Int) (d:ao):Bool:=d.key==key
def bL (l:List ao) (key:Int):cw:=match l.find? (pL key) with
 |some d=>d.ar
 |none=>⟨0,0⟩
def iP (d:ao):Bool:=df d.key&&dr d.ar
def OH (d:ao):bN [d]=iP d:=by simp[bN,dH,iP,df]
def iQ (c:Call):Bool:=kK c.keys&&((c.kind==1&&((c.keys.length:Int)==1))||(c.kind==2&&aS c.keys.length 1 3))
def uK (key:Int) (n:Int):Bool:=n==key
def yI (c:Call):Bool:=!((c.kind==1&&decide (0<(c.aA.length:Int)+c.aO.length))||(!(c.kind==1)&&((c.val !=0)||!dX c.ar)))
def OI (c:Call):(aS c.kind 1 2&&wz c)=iQ c:=by
 unfold wz iQ;cases kK c.keys
 .simp
 rw[Bool.eq_iff_iff];simp[aS];omega
def yJ (c:Call):Bool:=!(((c.kind==1)&&decide (0<(c.aA.length:Int)+c.aO.length))||((c.kind==2)&&(decide (0<c.val)||!dX c.ar))||!ld c.ar||decide ((c.keys.length:Int)<c.aA.length))
def DB (c:Call):Bool:=!(decide (0<(c.aO.length:Int))&&decide ((c.aA.length:Int)<c.keys.length))
def DC (c:Call) (time:Int):Bool:=if c.end_=0 then dX c.ar else !c.over&&aS c.end_ (c.bE+1) time&&((c.aO.length:Int)==0)&&(((c.kind==1)&&dr c.ar)||((c.kind==2)&&((c.aA.length:Int)==c.keys.length)))
def OJ (n:Nat):decide (0<(n:Int))=!decide (n=0):=by
 rw[Bool.eq_iff_iff];simp;omega
def OK (n m:Nat):decide (0<(n:Int)+m)=!(decide (n=0)&&decide (m=0)):=by
 rw[Bool.eq_iff_iff];simp;omega
def OL (n m:Nat):((n:Int)==m)=decide (n=m):=by
 rw[Bool.eq_iff_iff];simp;omega
def Yl (n:Nat):((n:Int)==0)=decide (n=0):=by
 rw[Bool.eq_iff_iff];simp
def Ym {n m:Nat} (h:n<=m):decide ((n:Int)<m)=!decide (n=m):=by
 rw[Bool.eq_iff_iff];simp;omega
def lM (d k:Call):Bool:=(d.aq==k.aq)&&!d.over&&((d.end_==0)||decide (k.bE<=d.end_))
def ga (l:List Call) (k:Nat) (x:Int):Int:=(((l.take k).filter λd=>d.aq==x).length:Nat)
def Ho (l:List Call):ga l 0=λ_=>0:=by funext x;simp[ga]
def rW {l:List Call} {k:Nat} (h:k<l.length) (x:Int):ga l (k+1) x=if(ab l k).aq=x then ga l k x+1 else ga l k x:=by
 unfold ga;rw[ez h,List.filter_append,List.length_append];by_cases hx:(ab l k).aq=x<;>simp[hx]
def Yn {l:List Call} {k:Nat} (h:k<l.length):(λy=>if y=(ab l k).aq then ga l k (ab l k).aq+1 else ga l k y)=ga l (k+1):=by
 funext y;rw[rW h];by_cases hy:y=(ab l k).aq
 .subst hy;simp
 rw[if_neg hy,if_neg λh=>hy h.symm]
def DD (l:List Call) (k:Nat) (x:Int):0<=ga l k x/\ga l k x<=k:=by
 unfold ga;have:=List.length_filter_le (λd:Call=>d.aq==x) (l.take k);have h2:(l.take k).length<=k:=by simp;omega
 omega
def wE (l:List ao):Bool:=!bN l
def lq (e:ao) (r:List ao) (key:Int):bL (e::r) key=if e.key=key then e.ar else bL r key:=by
 unfold bL;rw[List.find?_cons];by_cases h:e.key=key
 .rw[if_pos h,show pL key e=true by simp[pL,h]]
 rw[if_neg h,show pL key e=false by simp[pL,h]]
def yK:∀{l:List ao} {last key:Int},dH last l=true->key<=last->bL l key=⟨0,0⟩
 |[],_,_,_,_=>rfl
 |e::r,last,key,h,hk=>by
  have hh:=h;simp only[dH,Bool.and_eq_true,aS,decide_eq_true_eq] at h;rw[lq,if_neg om];exact yK h.2 om
def jv {v:aE} (h:ef v=true):df v.key=true/\dr v.ar=true/\bN v.aR=true:=by
 simp only[ef,Bool.and_eq_true] at h;exact⟨h.1.1.1.1.1.1,h.1.1.1.1.1.2,h.1.2⟩
def lN (v:aE) (h:v.aR.length<=1048576):
 Fn prog 136 [v.av] (v.av):=by
 refine Fn.go 9 func136 ntmps136 (λW I a U=>?_);refine sr<|U.box rfl .tt λb1 I a w U=>U.alloc rfl bU dR λb2 I a w U=>?_;refine zt ?_;refine U.l0 λb3 I a w U=>?_;refine aH λI a w U=>?_;refine U.ap 2 λv6 a w U=>?_;obtain⟨I,U⟩:=U.fr 2 6;refine aY λI a w U=>?_;refine U.ret rfl (.cons (.sx 1) ba.nil) ?_;rfl
def pM:List aE->aE->List aE
 |[],v=>[v]
 |x::r,v=>if gu v x then v::x::r else x::pM r v
structure lr (l:List aE) (v:aE) (k:Nat) (done:Bool) (out:List aE):Prop where
 hk:k<=l.length
 eq:pM l v=if done then out++l.drop k else out++pM (l.drop k) v
 len:out.length<=k+done.toNat
def uL (x y:cG):Bool:=(x.dy==1)&&(y.dy !=1)&&decide (y.bf<=x.bf)&&((y.dy !=2)||(y.bf==x.bf))
def oY (l:List cw):Int:=l.foldl (λt s=>if t<s.time then s.time else t) 0
def A2 {l:List cw} {k:Nat} (h:k<l.length):oY (l.take (k+1))=if oY (l.take k)<(ab l k).time then(ab l k).time else oY (l.take k):=by
 unfold oY;rw[ez h,List.foldl_append];rfl
def jG (l:List cw):Bool:=decide (oY l<9999)
def qD (site:Int) (l:List cw):cw:=if jG l then⟨oY l+1,site⟩ else⟨0,0⟩
def qE (key:Int) (v:aE):Bool:=v.key==key
def fq (l:List aE) (key:Int):Option aE:=l.reverse.find? (qE key)
def OM {l:List aE} {key:Int} {k:Nat} (hk:k<l.length) (h:∀i,k<i->i<l.length->qE key (ab l i)=false) (hp:qE key (ab l k)=true):fq l key=some (ab l k):=by
 unfold fq;rw[List.find?_eq_some_iff_getElem];refine⟨hp,l.length-1-k,by simp;omega,?_,λj hj=>?_⟩
 .rw[List.getElem_reverse];simp[ab];rw[List.getElem?_eq_getElem hk];simp;congr 1;omega
 rw[List.getElem_reverse];have:=h (l.length-1-j) om om;have e:l[l.length-1-j]'om=ab l (l.length-1-j):=by unfold ab;rw[List.getD_eq_getElem?_getD,List.getElem?_eq_getElem om];rfl
 rw[e,this];rfl
def A3 {l:List aE} {key:Int} {v:aE} (h:fq l key=some v):v∈l/\v.key=key:=by
 unfold fq at h;have h1:=List.mem_of_find?_eq_some h;have h2:=List.find?_some h;exact⟨List.mem_reverse.1 h1,by simpa[qE] using h2⟩
def gH (l:List aE) (v:aE):Bool:=ef v&&decide (placeOf l v.bh<0)&&decide (l.length<80)
def fj (site:Int):Int:=if site%2=0 then site+1 else site-1
def oZ (s:Server) (key aq call:Int) (v:aE):Bool:=(v.key==key)&&(v.aq==aq)&&(v.call==call)&&(bP v.ar.site==bP s.site)
def j3 (s:Server) (key aq call:Int):Option aE:=s.an.find? (oZ s key aq call)
def jR (s:Server) (m:az):List cw:=m.aR.map ao.ar++(match fq s.an m.key with|some v=>[v.ar]|none=>[])
def fk (s:Server) (m:az):aE:=⟨m.key,qD s.site (jR s m),m.val,m.aU-10,m.call,m.aR⟩
def jS (q:Call) (m:az):List az:=[{m with aU:=10+q.aq,to:=2*q.aq,call:=q.num},{m with aU:=10+q.aq,to:=2*q.aq+1,call:=q.num}]
def gP (q:Call):Bool:=(q.end_==0)&&!q.over
def ni (tn:List ao) (a:Answer):List ao:=if ck a.bm.ar (bL tn a.key) then[⟨a.key,bL tn a.key⟩] else[]
def lO (q:Call) (time:Int):Call:=if q.aO=[] then{q with end_:=time} else q
def c7:List Answer->Answer->List Answer
 |[],a=>[a]
 |e::r,a=>if a.key<e.key then a::e::r else e::c7 r a
def dK (m:az):Answer:=⟨m.key,m.yes,if m.yes then ab m.an 0 else rT⟩
def eB (au more:List az):List az:=au++more.take (60-au.length)
def wF (site:Nat):Server:=⟨site,true,(List.range 3).map λi=>if i%2=site%2 then⟨1,1⟩ else⟨0,0⟩,[],[],[],[]⟩
def fw:aI:=⟨0,(List.range 4).map wF,[],[],[[],[]]⟩
def Yo (v:Value) (l:List (List AV)) (x:List AV) (i:Nat) (hi:i<=l.length) (hl:l.length<=1048576) (eA:∀r∈l,r.length=7) (hx:x.length=7):
 gG prog 176 [AV.val v,AV.int i,AV.rows 7 [x]] [Own.row v 62 7 l] [] (AV.rows 7 (l.take i++x::l.drop i)):=by
 refine gG.intro 95 func176 rfl ntmps176 rfl aG (λW I a U=>?_);obtain⟨q,cap,rfl,mn⟩:=U.AJ 0 rfl;refine aV λI a w U=>?_;refine U.o (GF ea bU .tt .tt ⟨by omega,by omega⟩ mn) λU=>?_;refine bA λI a w U=>?_;refine U.o (z5 ea .tt) λU=>?_;rw[show(([x]:List (List AV)).length:Int)=1 from rfl] at U;refine aN λI a w U=>?_;refine U.cd (λae=>?_) λae=>?_
 .exfalso;simp at ae;skip
 refine gY λI a w U=>?_;refine cz (λah=>?_) λah=>?_
 .refine aH λI a w U=>?_;refine U.append 0 rfl ea bU rfl .tt .tt rfl (by simp only[List.length_singleton];omega) λwG a w U=>?_;obtain⟨I,U⟩:=U.fr 0 25;have U:=U.drop 0;refine ax λI a w U=>?_;refine U.tg rfl (.cons .x .nil) rfl ?_;exact congrArg (AV.rows 7) (by rw[show i=l.length by omega];simp)
 refine bz λI a w U=>?_;refine U.o (GH ea .tt) λU=>?_;refine ax λI a w U=>?_;refine cz (λaj=>?_) λaj=>?_
 .refine zt ?_;have aZ:l≠[]:=by intro e;rw[e] at hi ah;simp at hi ah;omega
  obtain⟨b,oI,he,nb,jB,mE,U⟩:=U.tc 0 rfl aZ;simp only[Value.slice.injEq] at he;obtain⟨rfl,_,rfl⟩:=he;have hA:(l.take i).flatten.length=i*7:=by rw[gM λr hr=>eA r (List.mem_of_mem_take hr),List.length_take,Nat.min_eq_left hi]
  have hB:(l.drop i).flatten.length=(l.length-i)*7:=by rw[gM λr hr=>eA r (List.mem_of_mem_drop hr),List.length_drop]
  rw[show l.flatten=(l.take i).flatten++(l.drop i).flatten by rw[<-List.flatten_append,List.take_append_drop],List.map_append] at U;have gI:([x]:List (List AV)).flatten.length=7:=by simpa using hx
  have hlen:(l.take i++x::l.drop i).length=l.length+1:=by simp;omega
  have mG:∀r∈l.take i++x::l.drop i,r.length=7:=λr hr=>(List.mem_append.1 hr).elim (λh=>eA r (List.mem_of_mem_take h)) λh=>(List.mem_cons.1 h).elim (λe=>e▸hx) λh=>eA r (List.mem_of_mem_drop h);have qF:(l.take i++x::l.drop i).flatten.map some=(l.take i).flatten.map some++([x]:List (List AV)).flatten.map some++(l.drop i).flatten.map some:=by simp
  refine aH λI a w U=>?_;refine U.o (te (hi:=i) ea bU .tt .tt rfl om om) λU=>?_;refine bO λI a w U=>?_;refine U.GI (jQ:=l.length+1-i) (xs:=(l.take i).flatten) 0 ea qA bU rfl aM .tt .tt om om rfl (by rw[List.drop_zero,List.append_assoc];exact ki _ (List.length_map _)) hA om om om rfl λ{gb A4 a w} uq uC U=>?_;refine aV λI a w U=>?_;refine U.o (j1 (lo:=i) ea bU .tt .tt rfl om om) λU=>?_;refine U.m λU=>?_;refine U.yo 1 ea bU .tt .tt rfl bt (by simp only[List.length_singleton];omega) (by simp only[List.length_singleton,List.length_append,List.length_map,List.length_replicate,hA];omega) rfl λU=>?_;refine zt ?_;refine U.dt 8 ?_;simp only[TD];refine dM ?_;refine .o (j1 (lo:=i+1) ea bU .tt .tt om om om) ?_;refine cj ?_;refine .o (j1 (lo:=i) ea bU .tt .tt rfl om om) ?_;refine .nil ?_;intro I a w U;refine U.yp (xs:=(l.drop i).flatten) 1 0 ea bU .tt .tt rfl rfl (by rw[List.append_assoc,wg _ (by simp only[List.length_map,hA];omega)];exact ki _ (List.length_map _)) (by rw[hB,Nat.min_eq_left om]) (by rw[lg (by simp only[List.length_map,List.length_append,List.length_replicate,gI,hA];omega)];simp only[List.length_append,List.length_map,List.length_replicate,hA,hB];omega) rfl λU=>?_;rw[GO (by simp only[List.length_map,hA];omega) (by simp only[List.length_map,gI];omega) (by simp only[List.length_map,List.length_replicate,gI,hB];omega)] at U;have U:=U.td (l:=l.take i++x::l.drop i) (cap:=A4) 1 rfl (by simp only[List.length_append,List.length_map,List.length_drop,List.length_replicate,hA,hB,gI];omega) mG om om om (by rw[qF,hlen];exact ki _ (by simp only[List.length_append,List.length_map,hA,hB,gI];omega));rw[show i+(l.length+1-i)=(l.take i++x::l.drop i).length by omega] at U;obtain⟨I,U⟩:=U.fr 1 9;have U:=U.drop 0;refine aB λI a w U=>?_;exact U.tg rfl (.cons (by first|exact .t rfl|exact .nil rfl) .nil) rfl rfl
 refine zt ?_;have aZ:l≠[]:=by intro e;rw[e] at hi ah;simp at hi ah;omega
 obtain⟨b,oI,he,nb,jB,mE,U⟩:=U.tc 0 rfl aZ;simp only[Value.slice.injEq] at he;obtain⟨rfl,_,rfl⟩:=he;have hA:(l.take i).flatten.length=i*7:=by rw[gM λr hr=>eA r (List.mem_of_mem_take hr),List.length_take,Nat.min_eq_left hi]
 have hB:(l.drop i).flatten.length=(l.length-i)*7:=by rw[gM λr hr=>eA r (List.mem_of_mem_drop hr),List.length_drop]
 rw[show l.flatten=(l.take i).flatten++(l.drop i).flatten by rw[<-List.flatten_append,List.take_append_drop],List.map_append] at U;have gI:([x]:List (List AV)).flatten.length=7:=by simpa using hx
 have hlen:(l.take i++x::l.drop i).length=l.length+1:=by simp;omega
 have mG:∀r∈l.take i++x::l.drop i,r.length=7:=λr hr=>(List.mem_append.1 hr).elim (λh=>eA r (List.mem_of_mem_take h)) λh=>(List.mem_cons.1 h).elim (λe=>e▸hx) λh=>eA r (List.mem_of_mem_drop h);have qF:(l.take i++x::l.drop i).flatten.map some=(l.take i).flatten.map some++([x]:List (List AV)).flatten.map some++(l.drop i).flatten.map some:=by simp
 refine bz λI a w U=>?_;refine U.o (te (hi:=l.length+1) ea bU .tt .tt om om om) λU=>?_;refine dI λI a w U=>?_;refine U.o (j1 (lo:=i+1) ea bU .tt .tt om om om) λU=>?_;refine U.overlaps (tR:=4) 0 func212 rfl aG aG aG ea bU aM .tt bt .tt rfl rfl λU=>?_;refine ax λI a w U=>?_;refine U.cd (λaJ=>?_) λaJ=>?_
 .refine wp_seq ?_;refine U.dt 8 ?_;simp only[TD];refine dM ?_;refine .o (j1 (lo:=i+1) ea bU .tt .tt om om om) ?_;refine cj ?_;refine .o (j1 (lo:=i) ea bU .tt .tt rfl om om) ?_;refine .nil ?_;intro I a w U;refine U.yp (xs:=(l.drop i).flatten) 0 0 ea bU .tt .tt rfl rfl (by rw[List.append_assoc,wg _ (by simp only[List.length_map,hA];omega)];exact ki _ (List.length_map _)) (by rw[hB];congr 1;omega) (by simp only[List.length_append,List.length_map,List.length_replicate,hA,hB];omega) rfl λU=>?_;refine aH λI a w U=>?_;refine U.o (j1 (lo:=i) ea bU .tt .tt rfl om om) λU=>?_;refine U.m λU=>?_;refine U.yo 0 ea bU .tt .tt rfl bt (by simp only[List.length_singleton];omega) (by rw[lg (by simp only[List.length_map,List.length_append,List.length_replicate,hA,hB];omega)];simp only[List.length_singleton,List.length_append,List.length_map,List.length_replicate,hA,hB];omega) rfl λU=>?_;rw[GN (by simp only[List.length_map,hA];omega) (by simp only[List.length_map,gI];omega) (by simp only[List.length_map,List.length_replicate,gI];omega)] at U;have U:=U.td (l:=l.take i++x::l.drop i) (cap:=cap) 0 rfl (by simp only[List.length_append,List.length_map,List.length_drop,List.length_replicate,hA,hB,gI];omega) mG om om om (by rw[qF,hlen];exact ki _ (by simp only[List.length_append,List.length_map,hA,hB,gI];omega));rw[show l.length+1=(l.take i++x::l.drop i).length by omega] at U;obtain⟨I,U⟩:=U.fr 0 0;have U:=U.drop 0;refine aB λI a w U=>?_;exact U.tg rfl (.cons (by first|exact .t rfl|exact .nil rfl) .nil) rfl rfl
 exfalso;simp at aJ;skip
def Yp (l:List Int) (key:Int):
 Fn prog 237 [iz l,AV.int key] (AV.int (dm (uK key) l)):=by
 refine Fn.go 19 func237 ntmps237 (λW I a U=>?_);have hle:=U.dE (t:=0) rfl;refine aY λI a w U=>?_;refine St.lo (σ:=Nat) (run 2 4 (run 11 8 [])) ⟨λk=>[(8,AV.int k)],λk=>[],λk=>k<=l.length/\∀i,i<k->uK key (ab l i)=false⟩ (λk=>l.length-k) 0 U ?aL ?bG;case aL=>exact⟨Nat.zero_le _,λi hi=>by omega⟩
 rintro k I a w al U;obtain⟨hk,aT⟩:=al;refine ax λI a w U=>?_;refine cz (λae=>?_) λae=>?_
 .refine rR λI a w U=>?_;refine U.cd (λah=>?_) λah=>?_
  .rw[show(key==ab l k)=uK key (ab l k) from Bool.beq_comm] at ah;refine di ?_;exact fM (ng ae aT ah).symm
  rw[show(key==ab l k)=uK key (ab l k) from Bool.beq_comm] at ah;refine aB λI a w U=>?_;exact U.ag (k+1) (⟨by omega,λi h1=>by rcases Nat.lt_succ_iff_lt_or_eq.1 h1 with h|h;exact aT i h;rw[h];exact ah⟩)
 refine zt ?_;refine bc ?_;exact fM (mF om aT).symm
def DE (s:cw):([s.time,s.site] !=[0,0])=!dX s:=by
 rw[Bool.eq_iff_iff];simp[dX];omega
def ON (q:Call):(((q.kind==1)&&decide (0<(q.aA.length:Int)+q.aO.length))||(!(q.kind==1)&&((q.val !=0)||!dX q.ar)))=!yI q:=by simp[yI]
def OO (q:Call):(decide (0<(q.aO.length:Int))&&decide ((q.aA.length:Int)<q.keys.length))=!DB q:=by simp[DB]
def iR {l:List ao} (h:fY l=true):l.length<=80:=by
 unfold fY at h;rw[Bool.and_eq_true,decide_eq_true_eq] at h;exact h.1
def rX {α:Type} (p:α->Bool) (l:List α) (k:Nat):((l.take k).filter p).length<=l.length:=by
 have h1:=List.length_filter_le p (l.take k);have h2:(l.take k).length<=l.length:=by simp;omega
 omega
def rY {l:List aE} {v:aE} (h:gH l v=true):ef v=true/\placeOf l v.bh<0/\l.length<80:=by
 unfold gH at h;simp only[Bool.and_eq_true,decide_eq_true_eq] at h;exact⟨h.1.1,h.1.2,h.2⟩
def yL (n:Int) (hn:cO n=true):
 Fn prog 188 [AV.int n] (AV.int (fj n)):=by
 refine Fn.go 10 func188 ntmps188 (λW I a U=>?_);have yb:0<=n/\n<=3:=by simpa[cO,aS] using hn
 refine aH λI a w U=>?_;refine U.o (qn .tt .c (λ_=>by omega)) λU=>?_;refine ax λI a w U=>?_;refine U.cd (λae=>?_) λae=>?_
 .refine tj ?_;exact fM (by unfold fj;rw[if_pos (by simpa using ae)])
 refine tj ?_;exact fM (by unfold fj;rw[if_neg (by simpa using ae)])
def tp {m:az} (h1:1<=m.kind/\m.kind<=10) (h2:lF m.aU=true) (h3:lF m.to=true) (h4:0<=m.call/\m.call<=99) (h5:df m.key=true) (h6:ld m.ar=true) (h7:0<=m.val/\m.val<=9999) (h8:bN m.aR=true) (h9:0<=m.slot/\m.slot<=2)
 (wH:0<=m.bf/\m.bf<=9999) (sV:bY m.an=true) (uM:bY m.waits=true) (Yq:fY m.aD=true):bM m=true:=by
 simp only[bM,Bool.and_eq_true,aS,decide_eq_true_eq];exact⟨⟨⟨⟨⟨⟨⟨⟨⟨⟨⟨⟨h1,h2⟩,h3⟩,h4⟩,h5⟩,h6⟩,h7⟩,h8⟩,h9⟩,wH⟩,sV⟩,uM⟩,Yq⟩
def pN {n:Int} (h:cO n=true):lF n=true:=by unfold lF;rw[h];rfl
def pO:bY []=true:=rfl
def Hp:df 0=true:=rfl
def rZ:bN []=true:=rfl
def OP {s:Server} {key aq call:Int} {v:aE} (h:j3 s key aq call=some v):v∈s.an/\v.key=key/\v.aq=aq/\v.call=call/\bP v.ar.site=bP s.site:=by
 have h1:=List.mem_of_find?_eq_some h;have h2:=List.find?_some h;simp only[oZ,Bool.and_eq_true,beq_iff_eq] at h2;exact⟨h1,h2.1.1.1,h2.1.1.2,h2.1.2,h2.2⟩
def r7:∀{l:List Answer} {a x:Answer},x∈c7 l a↔x=a\/x∈l
 |[],a,x=>by simp[c7]
 |e::r,a,x=>by
  unfold c7;split
  .simp
  rw[List.mem_cons,r7,List.mem_cons];constructor
  .rintro(h|h|h)<;>simp[h]
  rintro(h|h|h)<;>simp[h]
def wI:∀(l:List Answer) (a:Answer),(c7 l a).length=l.length+1
 |[],a=>rfl
 |e::r,a=>by unfold c7;split<;>simp[wI r a]
def sa {q:Call} (h:gP q=true):q.end_=0/\q.over=false:=by
 unfold gP at h;simpa using h
def sd {n:Int}:fC n=true↔0<=n/\n<=1:=by simp[fC,aS]
def Yr {n:Int} (h:fC n=true):lF (10+n)=true:=by
 rw[sd] at h;unfold lF aS;simp;right;omega
def wJ {α:Type} [Inhabited α] {l:List α} {i:Nat} {a x:α} (h:x∈l.set i a):x=a\/∃k,k<l.length/\k≠i/\x=ab l k:=by
 obtain⟨k,hk,rfl⟩:=List.getElem_of_mem h;rw[List.length_set] at hk;by_cases e:i=k
 .subst e;left;simp
 right;refine⟨k,hk,λe'=>e e'.symm,?_⟩;rw[List.getElem_set_ne e];simp[ab,hk]
def OQ (p:ao->Bool):∀{l:List ao} {last:Int},dH last l=true->dH last (l.filter p)=true
 |[],_,_=>rfl
 |d::r,last,h=>by
  simp only[dH,Bool.and_eq_true] at h;have ih:=OQ p h.2;have hd:=h.1.1;simp only[aS,Bool.and_eq_true,decide_eq_true_eq] at hd;by_cases hp:p d=true
  .rw[List.filter_cons_of_pos hp];simp only[dH,Bool.and_eq_true];exact⟨h.1,ih⟩
  rw[List.filter_cons_of_neg hp];cases hr:r.filter p with
  |nil=>rfl
  |cons e r'=>
   rw[hr] at ih
   simp only[dH,Bool.and_eq_true,aS,decide_eq_true_eq] at ih⊢
   exact⟨⟨⟨by omega,ih.1.1.2⟩,ih.1.2⟩,ih.2⟩
def jh {α:Type} [Inhabited α] {l:List α} {i j:Nat} {x:α} (h:i<l.length):ab (l.set i x) j=if j=i then x else ab l j:=by
 unfold ab;simp only[List.getD_eq_getElem?_getD];rw[List.getElem?_set];by_cases e:i=j
 .subst e;simp[h]
 rw[if_neg e,if_neg λe'=>e e'.symm]
def Ys {l:List Call} {i:Nat} {x:Call} (h:i<l.length) (hx:x.aq=(ab l i).aq) (k:Nat) (y:Int):ga (l.set i x) k y=ga l k y:=by
 have e:((l.set i x).map Call.aq)=l.map Call.aq:=by
  rw[List.map_set];apply List.ext_getElem
  .simp
  intro n Yt yb;by_cases e:i=n
  .subst e;rw[List.getElem_set_self,List.getElem_map,hx];simp[ab,h]
  rw[List.getElem_set_ne e]
 have e2:∀l:List Call,ga l k y=((((l.map Call.aq).take k).filter λd=>d==y).length:Nat):=λl=>by
  unfold ga;rw[<-List.map_take,List.filter_map,List.length_map];rfl
 rw[e2,e2,e]
def Yu {au more:List az} (h:au.length<=60):(eB au more).length<=60:=by
 unfold eB;rw[List.length_append,List.length_take];omega
def Yv {au more:List az} (h:∀m∈au,bM m=true) (h':∀m∈more,bM m=true):∀m∈eB au more,bM m=true:=λm hm=>by
 unfold eB at hm;rcases List.mem_append.1 hm with hm|hm
 .exact h m hm
 exact h' m (List.mem_of_mem_take hm)
def A5 {α:Type} {o:Option α} (h:(!o.isSome)=true):o=none:=by cases o;rfl;cases h
def OR (s:Server) (m:az):(!jG (jR s m)||!gH s.an (fk s m)||decide (80<=(s.aD.length:Int)))=!(jG (jR s m)&&gH s.an (fk s m)&&decide (s.aD.length<80)):=by
 have e:decide (80<=(s.aD.length:Int))=!decide (s.aD.length<80):=by rw[Bool.eq_iff_iff];simp;omega
 rw[e];simp
def DF {s:Server} {m:az} (h:(fq s.an m.key).isSome=true):m.aR.map ao.ar++[((fq s.an m.key).getD default).ar]=jR s m:=by
 obtain⟨v,hv⟩:=Option.isSome_iff_exists.1 h;unfold jR;rw[hv];rfl
def DG {s:Server} {m:az} (h:(fq s.an m.key).isSome=false):m.aR.map ao.ar=jR s m:=by
 have e:fq s.an m.key=none:=by cases hh:fq s.an m.key;rfl;rw[hh] at h;cases h
 unfold jR;rw[e];simp
def OS (s:Server) (m:az):((m.aU !=fj s.site)||decide (m.bf<1))=!((m.aU==fj s.site)&&decide (1<=m.bf)):=by
 have e:decide (m.bf<1)=!decide (1<=m.bf):=by rw[Bool.eq_iff_iff];simp
 rw[e];simp[bne]
def Yw (l:List aE):
 Fn prog 124 [bQ l] (AV.fn 177 [AV.ptr [bQ l]]):=by
 refine Fn.go 4 func124 ntmps124 (λW I a U=>?_);refine zt ?_;refine U.o (yd .tt (by first|exact gn rfl|exact en|exact gC|exact gE)) λU=>?_;refine ax λI a w U=>?_;refine U.o (oJ (ai .tt aC)) λU=>?_;refine bc ?_;rfl
abbrev tq (l:List aE) (I0:Im):={x:Nat×Value//x.1<l.length/\(ab l x.1).av.h I0 x.2}
def uN {l:List aE} {I0:Im} (xs:List (tq l I0)):Prop:=∀j x,xs[j]?=some x->x.1.1+1+j=l.length
def OT {s:Server} {m:az} (h:s.aD.length<=80):(!jG (jR s m)||((s.aD.length:Int)==80))=!(jG (jR s m)&&decide (s.aD.length<80)):=by
 have e:((s.aD.length:Int)==80)=!decide (s.aD.length<80):=by rw[Bool.eq_iff_iff];simp;omega
 rw[e];simp
def Yx {s:Server} {m:az} (h:(m.kind==10&&(m.aU==fj s.site)&&([(ab s.aF m.slot.toNat).bf,(ab s.aF m.slot.toNat).dy]==[m.bf,2]))=true):(cG.cells (ab s.aF m.slot.toNat)).set 1 (AV.int 0)=cG.cells ⟨m.bf,0⟩:=by
 simp only[Bool.and_eq_true,beq_iff_eq,List.cons.injEq] at h;show[AV.int _,AV.int 0]=[AV.int _,AV.int 0];rw[h.2.1]
def OU {s:Server} {m:az} (h:(m.kind==9&&(m.aU==fj s.site)&&decide (0<m.bf))=true):m.kind=9/\((m.aU==fj s.site)&&decide (1<=m.bf))=true:=by
 simp only[Bool.and_eq_true,beq_iff_eq,decide_eq_true_eq] at h⊢;exact⟨h.1.1,h.1.2,by omega⟩
def pP (bs:List UInt8) (i:Int):Int:=((ab bs i.toNat).toNat:Int)
def wK (bs:List UInt8) (k:Int):Int:=pP bs (k%bs.length)*131+pP bs ((k*7+3)%bs.length)*1117+k*29+k/bs.length*53
def bI (bs:List UInt8) (p n:Int):Int:=
 if n<1\/bs.length=0 then 0 else if p<bs.length then pP bs p%n else rQ (wK bs p) (wK bs p/64)%n
def nj (bs:List UInt8) (i:Int):0<=pP bs i:=Int.natCast_nonneg _
def nk (bs:List UInt8) (i:Int):pP bs i<256:=by have:=(ab bs i.toNat).toNat_lt;unfold pP;omega
def ig (bs:List UInt8) (p n:Int):0<=bI bs p n:=by
 unfold bI;split
 .omega
 rename_i h;split
 .exact Int.emod_nonneg _ om
 exact Int.emod_nonneg _ om
def iJ (bs:List UInt8) (p:Int) {n:Int} (h:0<n):bI bs p n<n:=by
 unfold bI;split
 .omega
 split
 .exact Int.emod_lt_of_pos _ h
 exact Int.emod_lt_of_pos _ h
def g0 (bs:List UInt8) (p:Int) {n:Int} (h:0<n):0<=bI bs p n/\bI bs p n<n:=⟨ig ..,iJ bs p h⟩
def Yy {bs:List UInt8} {p n:Int} (h:(decide (n<1)||((bs.length:Int)==0))=true):0=bI bs p n:=by
 simp only[Bool.or_eq_true,decide_eq_true_eq,beq_iff_eq] at h;unfold bI;rw[if_pos om]
def cv (i:Nat):Nat:=if i%2=0 then i+1 else i-1
def pQ {i:Nat} (h:i<4):cv i<4:=by unfold cv;split<;>omega
def pb (i:Nat):cv i/2=i/2:=by unfold cv;split<;>omega
def Hq (i:Nat):cv i≠i:=by unfold cv;split<;>omega
def j4 (i:Nat):cv (cv i)=i:=by unfold cv;split<;>split<;>omega
def Yz {i j:Nat} (h:j/2=i/2):j=i\/j=cv i:=by unfold cv;split<;>omega
def YA {i:Nat}:fj (i:Int)=(cv i:Int):=by unfold fj cv;split<;>split<;>omega
def uO (a b:List ao):Prop:=∀key,ck (bL b key) (bL a key)=false
def yM (s:Server) (m:az):Prop:=
 ab s.aF m.slot.toNat=⟨m.bf,2⟩/\(∀v,v∈m.an↔v∈s.an/\cW v.key=m.slot)/\(∀v,v∈m.waits↔v∈s.waits/\cW v.key=m.slot)/\∀d,d∈m.aD↔d∈s.aD/\cW d.key=m.slot
def kQ (q p:Call):Prop:=p.aq=q.aq/\p.num=q.num/\p.kind=q.kind/\p.keys=q.keys/\p.val=q.val/\p.ctx=q.ctx
def kQ.refl (q:Call):kQ q q:=⟨rfl,rfl,rfl,rfl,rfl,rfl⟩
def kQ.trans {a b d:Call} (h:kQ a b) (h':kQ b d):kQ a d:=by
 obtain⟨a1,a2,a3,a4,a5,a6⟩:=h;obtain⟨b1,b2,b3,b4,b5,b6⟩:=h';exact⟨b1.trans a1,b2.trans a2,b3.trans a3,b4.trans a4,b5.trans a5,b6.trans a6⟩
def YB (l:List Call) {a b:Nat} (h:a<=b) (x:Int):ga l a x<=ga l b x:=by
 unfold ga;have e:l.take a=(l.take b).take a:=by rw[List.take_take,Nat.min_eq_left h]
 have:((l.take a).filter λd=>d.aq==x).length<=((l.take b).filter λd=>d.aq==x).length:=by
  rw[e];exact((List.take_sublist a (l.take b)).filter _).length_le
 omega
def YC {l:List aE} {key:Int} (h:fq l key=none) {u:aE} (hu:u∈l):u.key≠key:=by
 unfold fq at h;rw[List.find?_eq_none] at h;have:=h u (List.mem_reverse.2 hu);simpa[qE] using this
def Hr (a b:List Call):Prop:=b=a\/(∃q,b=a++[q])\/∃i q,i<a.length/\gP (ab a i)=true/\b=a.set i q
def Hr.len {a b:List Call} (h:Hr a b):a.length<=b.length/\b.length<=a.length+1:=by
 rcases h with rfl|⟨q,rfl⟩|⟨i,q,_,_,rfl⟩<;>simp
def wA (s:cw):
 Fn prog 172 [s.av] (AV.bool (dX s)):=by
 refine Fn.go 6 func172 ntmps172 (λW I a U=>?_);refine aV λI a w U=>?_;refine U.o (.bd ic aW.nil) λU=>?_;refine U.o (mq [_,_] [_,_] mD rfl rfl .tt .tt) λU=>?_;refine bc ?_;exact bF (by simp[dX])
def A0 (n:Int):
 Fn prog 96 [AV.int n] (AV.bool (aS n 10 11)):=by
 refine Fn.go 5 func96 ntmps96 (λW I a U=>?_);refine aH λI a w U=>?_;refine U.o (.cl (jg ..)) λU=>?_;refine bc ?_;rfl
def X3 {n:Int} (h:je n):fC (IntKind.i64.wrap (n-10))=fC (n-10):=by
 obtain⟨h1,h2⟩:=h;by_cases h3:-9223372036854775808<=n-10
 .rw[IntWalk.i64_in _ ⟨h3,by omega⟩]
 have e:IntKind.i64.wrap (n-10)=n-10+18446744073709551616:=by
  simp only[IntKind.wrap];simp[IntKind.signed,IntKind.bits];omega
 rw[e];simp only[fC,aS];rw[Bool.eq_iff_iff];simp;omega
def pJ (w:aI):Bool:=!(!aS w.time 0 99999||((w.aw.length:Int) !=4)||decide (60<(w.au.length:Int))||((w.seen.length:Int) !=2))
def iI (l:List aE) (d:ao):Option aE:=if 0<=placeOf l d then some (ab l (placeOf l d).toNat) else none
def X4 (l:List aE) (d:ao):(iI l d).isSome=decide (0<=placeOf l d):=by
 unfold iI;split<;>simp_all
def wB (x y:cG):Bool:=(x.dy==2)&&(y.dy !=1)&&decide (y.bf<x.bf)
def Oq (e d:ao):(decide (d.key<e.key)||((e.key==d.key)&&ck d.ar e.ar))=ee d e:=by
 unfold ee;by_cases h:e.key=d.key
 .simp[h]
 have e1:(e.key==d.key)=false:=by simpa using h
 have e2:(d.key==e.key)=false:=by simpa usingλx=>h x.symm
 rw[e1,e2]
def leaving (s:Server):List Nat:=(List.range s.aF.length).filter λi=>(ab s.aF i).dy==2
def kO (s:Server) (slot:Int):Server:={s with aF:=s.aF.set slot.toNat ⟨(ab s.aF slot.toNat).bf+1,2⟩}
def ll (s:Server):Server:={s with up:=false,bj:=[]}
def yD:Call:=⟨0,0,0,[],0,[],0,0,false,⟨0,0⟩,[],[]⟩
def uI (aq:Int) (q:Call):Bool:=(q.aq==aq)&&(q.end_==0)&&!q.over
def cA (calls:List Call) (aq:Int):Int:=dm (uI aq) calls
def lJ (e:Ev):List Int:=e.a::(if e.call=2/\e.a<e.b then e.b::(if e.b<e.c then[e.c] else[]) else[])
def yE {α:Type} [Inhabited α] {l m:List α} (h:l.length=m.length) (he:∀i,i<l.length->ab l i=ab m i):l=m:=by
 apply List.ext_getElem h;intro i h1 h2;have:=he i h1;simpa[ab,h1,h2] using this
def X5 (q:Call):
 Fn prog 146 [q.av] (AV.bool (wz q)):=by
 refine Fn.go 57 func146 ntmps146 (λW I a U=>?_);have lens:q.keys.length<=9223372036854775807/\q.aA.length<=9223372036854775807/\q.aO.length<=9223372036854775807:=⟨U.ln 0 3,U.ln 0 11,U.ln 0 12⟩;refine Df λI a w U=>?_;refine U.cd (λae=>?_) λae=>?_
 .refine bc ?_;exact bF (by unfold wz;rw[ae];rfl)
 refine ax λI a w U=>?_;refine St.lo (σ:=Nat) (run 2 2 (run 32 25 [])) ⟨λk=>[(3,AV.int k)],λk=>[],λk=>k<=q.keys.length/\∀i,i<k->(eQ df oX q.keys) i=true⟩ (λk=>q.keys.length-k) 0 U ?aL ?bG;case aL=>exact⟨Nat.zero_le _,λi hi=>by omega⟩
 rintro k I a w al U;obtain⟨rV,aT⟩:=al;refine ct λI a w U=>?_;refine cz (λah=>?_) λah=>?_
 .refine zt ?_;refine U.dk ?_;refine fD ?_;refine .o (.c1 (uH ..)) ?_;refine nd ?_;refine dJ ?_;refine .nil ?_;intro I a w U;refine bk ?_;refine U.cd (λaj=>?_) λaj=>?_
  .rw[Oo] at aj;replace aj:=nt aj;refine bc ?_;exact bF (by unfold wz kK;rw[fN (f:=eQ df oX q.keys) ah aj];simp)
  rw[Oo] at aj;replace aj:=nf aj;refine aN λI a w U=>?_;exact U.ag (k+1) (⟨by omega,gO aT aj⟩)
 refine zt ?_;refine bc ?_;exact bF (by unfold wz kK;rw[ae,fJ aT om];rfl)
def X6 (n:Nat):decide ((n:Int)<=20)=decide (n<=20):=by rw[Bool.eq_iff_iff];simp;omega
def X7 {n:Nat} (h:(20:Int)<n):decide (n<=20)=false:=by simp;omega
def yF {α β:Type} [Inhabited β] {f:α->β->α} {z:α} {l:List β} {k:Nat} (h:k<l.length):(l.take (k+1)).foldl f z=f ((l.take k).foldl f z) (ab l k):=by
 rw[ez h,List.foldl_append];rfl
def Server.yG (s:Server) (v:Value):AV:=.agg [.int s.site,.bool s.up,.val v,bQ s.an,bQ s.waits,bw s.aD,bw s.bj]
def Ot {m:az} (h:bM m=true):df m.key=true:=by
 simp only[bM,Bool.and_eq_true] at h;exact h.1.1.1.1.1.1.1.1.2
def qB {m:az} (h:bM m=true):0<=m.slot/\m.slot<3:=by
 simp only[bM,Bool.and_eq_true,aS,decide_eq_true_eq] at h;omega
def lK {n:Int}:cO n=true↔0<=n/\n<=3:=by simp[cO,aS]
def wC:fY []=true:=rfl
def A1:ld ⟨0,0⟩=true:=rfl
def Hi {n:Int} (h:cO n=true):bP n=n/2/\0<=bP n/\bP n<=1:=by
 have h1:=lK.1 h;unfold bP;rw[h,if_pos rfl];omega
def X8 {α:Type} {l:List α} {i:Nat} {a:α} (h:i<l.length):a∈l.set i a:=by
 rw[List.mem_iff_getElem];exact⟨i,by simpa using h,by simp⟩
def X9 (a b:Nat):decide ((a:Int)+b<=80)=decide (a+b<=80):=by rw[Bool.eq_iff_iff];simp;omega
def Hj {s:Server} {m:az} (h:(s.up&&bM m&&(m.to==s.site))=true):s.up=true/\bM m=true:=by
 rw[Bool.and_eq_true,Bool.and_eq_true] at h;exact h.1
def tm (s:Server) (k:Nat):List Nat:=(List.range k).filter λi=>(ab s.aF i).dy==2
def Ya {s:Server}:tm s s.aF.length=leaving s:=rfl
def Yb {s:Server} {k:Nat} (h:(ab s.aF k).dy=2):tm s (k+1)=tm s k++[k]:=by
 unfold tm;rw[List.range_succ,List.filter_append];simp[h]
def Yc {s:Server} {k:Nat} (h:¬(ab s.aF k).dy=2):tm s (k+1)=tm s k:=by
 unfold tm;rw[List.range_succ,List.filter_append];simp[h]
def Yd (s:Server) (k:Nat):(tm s k).length<=k:=by
 have:=List.length_filter_le (λi=>(ab s.aF i).dy==2) (List.range k);rw[List.length_range] at this;exact this
def Ou (x:Bool) (n:Int):(x&&!decide (0<=n))=(x&&decide (n<0)):=by
 have e:(!decide (0<=n))=decide (n<0):=by rw[Bool.eq_iff_iff];simp
 rw[e]
def Call.yG (q:Call) (g n:Value):AV:=.agg [AV.int q.aq,AV.int q.num,AV.int q.kind,iz q.keys,AV.int q.val,bw q.ctx,AV.int q.bE,AV.int q.end_,AV.bool q.over,AV.int q.ar.time,AV.int q.ar.site,.val g,.val n]
def Call.yH (q:Call) (n:Value):AV:=.agg [AV.int q.aq,AV.int q.num,AV.int q.kind,iz q.keys,AV.int q.val,bw q.ctx,AV.int q.bE,AV.int q.end_,AV.bool q.over,AV.int q.ar.time,AV.int q.ar.site,oN q.aA,.val n]
def aI.Dw (w:aI) (r:Value×Value×Value×Value):List Own:=[Own.row r.1 43 7 (w.aw.map Server.cells),Own.row r.2.1 84 15 (w.au.map az.cells),Own.row r.2.2.1 53 13 (w.calls.map Call.cells),Own.row r.2.2.2 41 1 (w.seen.map dQ)]
def pK (q:Call) (a:Answer) (k:Nat):List ao:=(q.aO.take k).filter λd=>decide (d≠a.bm.bh)
def Hk {α:Type} [Inhabited α] {l:List α} {k:Nat} {x:α} (h:k<l.length):x∈l.take (k+1)↔x∈l.take k\/x=ab l k:=by rw[ez h];simp
def Ov (d:ao) (a:Answer) (h:a.bm.key=a.key):((d.key==a.key)&&([d.ar.time,d.ar.site]==[a.bm.ar.time,a.bm.ar.site]))=decide (d=a.bm.bh):=by
 obtain⟨k,⟨t,s⟩⟩:=d;obtain⟨ak,ay,av⟩:=a;obtain⟨vk,⟨vt,vs⟩,vv,vc,vca,vd⟩:=av;obtain rfl:vk=ak:=h;rw[Bool.eq_iff_iff];simp[aE.bh]
def Ow (q:Call) (x:Answer) (k:Nat):(((((pK q x k).map ao.cells).length:Int)==0)&&decide (0<(q.aO.length:Int)))=decide (pK q x k=[]/\q.aO≠[]):=by
 rw[List.length_map,Bool.eq_iff_iff];simp;intro _;exact⟨λh e=>by rw[e] at h;simp at h,λh=>by cases hq:q.aO with|nil=>exact absurd hq h|cons _ _=>simp⟩
def Ye (m:az) (d:ao):
 Fn prog 254 [d.av,AV.ptr m.cells] (AV.bool (decide (d.key=m.key))):=by
 refine Fn.go 9 func254 ntmps254 (λW I a U=>?_);refine rR λI a w U=>?_;refine U.rt ?_;exact congrArg AV.bool (by rw[Bool.eq_iff_iff];simp)
def Ox (x:Int):fC (x-10)=aS x 10 11:=by
 unfold fC aS;rw[Bool.eq_iff_iff];simp;omega
def Oy {s:Server} {m:az} (h:(m.kind==5&&(cO m.aU&&(bP m.aU !=bP s.site)))=true):m.kind=5/\(cO m.aU&&(bP m.aU !=bP s.site))=true:=by
 rw[Bool.and_eq_true,beq_iff_eq] at h;exact h
def Dx (l:List Call) (aq:Int):
 Fn prog 77 [fB l,AV.int aq] (AV.int (cA l aq)):=by
 refine Fn.go 36 func77 ntmps77 (λW I a U=>?_);have hle:=U.dE (t:=0) rfl;refine aB λI a w U=>?_;refine St.lo (σ:=Nat) (run 32 4 []) ⟨λk=>[(5,AV.int k)],λk=>[],λk=>k<=l.length/\∀i,i<k->uI aq (ab l i)=false⟩ (λk=>l.length-k) 0 U ?aL ?bG;case aL=>exact⟨Nat.zero_le _,λi hi=>by omega⟩
 rintro k I a w al U;obtain⟨hk,aT⟩:=al;refine aY λI a w U=>?_;refine cz (λae=>?_) λae=>?_
 .refine Df λI a w U=>?_;refine U.cd (λah=>?_) λah=>?_
  .change uI aq (ab l k)=true at ah;refine di ?_;exact fM (ng ae aT ah).symm
  change uI aq (ab l k)=false at ah;refine aN λI a w U=>?_;exact U.ag (k+1) (⟨ae,λi h1=>by rcases Nat.lt_succ_iff_lt_or_eq.1 h1 with h|h;exact aT i h;rw[h];exact ah⟩)
 refine zt ?_;refine bc ?_;exact fM (mF om aT).symm
def wD (au more:List az):Nat->List az
 |0=>au
 |k+1=>wD au more k++[ab more k]
def Oz (au more:List az):∀k,k<=more.length->wD au more k=au++more.take k
 |0,_=>by simp[wD]
 |k+1,h=>by
  show wD au more k++_=_;rw[Oz au more k om,List.append_assoc,<-ez om]
def OA (w:aI) (e:Ev):(!aS e.aq 0 1||decide (0<=cA w.calls e.aq))=!(fC e.aq&&decide (cA w.calls e.aq<0)):=by
 have h:decide (0<=cA w.calls e.aq)=!decide (cA w.calls e.aq<0):=by rw[Bool.eq_iff_iff];simp
 rw[h];unfold fC;simp
def Dy:Nat->List (List ao)
 |0=>[]
 |k+1=>Dy k++[[]]
def aI.full (b:Nat) (x:aI) (s r q z:Value):List Own:=[Own.box b 28 [AV.int x.time,AV.val s,AV.val r,AV.val q,AV.val z],Own.row s 43 7 (x.aw.map Server.cells),Own.row r 84 15 (x.au.map az.cells),Own.row q 53 13 (x.calls.map Call.cells),Own.row z 41 1 (x.seen.map dQ)]
def OB (w:aI) (e:Ev):(!fC e.aq||decide (0<=cA w.calls e.aq))=!(fC e.aq&&decide (cA w.calls e.aq<0)):=by
 have h:decide (0<=cA w.calls e.aq)=!decide (cA w.calls e.aq<0):=by rw[Bool.eq_iff_iff];simp
 rw[h];simp
def Yf {n:Int} (h:cO n=true):aS n 10 11=false:=by
 have:=lK.1 h;unfold aS;rw[Bool.and_eq_false_iff,decide_eq_false_iff_not,decide_eq_false_iff_not];omega
def Yg {x:aI} {e:Ev} (h:((ab x.aw e.at_.toNat).up==(e.kind==7))=false) (h7:e.kind=7):(ab x.aw e.at_.toNat).up=false:=by
 rw[h7] at h;simpa using h
def behind (s t:Server) (k:Nat):Prop:=(ab s.aF k).bf<(ab t.aF k).bf\/((ab s.aF k).bf=(ab t.aF k).bf/\(ab t.aF k).dy=1)
def OC {m:az} (h:bM m=true):m.slot.toNat<3:=by have:=qB h;omega
def Yh {s t x y:Server} {k:Nat} (e:s.aF=t.aF) (e':x.aF=y.aF):behind s x k↔behind t y k:=by unfold behind;rw[e,e']
def Dz {i:Nat} (hi:i<4):bP (i:Int)=((i/2:Nat):Int):=by
 have h:cO (i:Int)=true:=lK.2 om;unfold bP;rw[h,if_pos rfl];omega
def DA {n:Int} (h:cO n=true):n.toNat<4/\bP n=((n.toNat/2:Nat):Int)/\(n/2).toNat=n.toNat/2/\((n.toNat:Nat):Int)=n:=by
 have h1:=lK.1 h;unfold bP;rw[h,if_pos rfl];omega
def Yi {α:Type} [Inhabited α] {l:List α} {i:Nat} (h:i<l.length):l.set i (ab l i)=l:=by
 apply List.ext_getElem
 .simp
 intro n h1 h2;rw[List.getElem_set];split
 .rename_i e;subst e;simp[ab,h2]
 rfl
def OD {α:Type} [Inhabited α] {l:List α} {x:α}:ab (l++[x]) l.length=x:=by
 unfold ab;simp[List.getD_eq_getElem?_getD]
def qC (l:List aE):Prop:=l.length<=81/\∀u∈l,u.aR.length<=6
def OE (m:az):Prop:=m.aR.length<=7/\qC m.an/\qC m.waits/\m.aD.length<=7
def lL (x:Int):Prop:=-1<=x/\x<=100000
def eK {l:List Int} (h:l.all (λx=>decide (-1<=x)&&decide (x<=100000))=true):∀x∈l,lL x:=λx hx=>by
 have:=List.all_eq_true.1 h x hx;simp only[Bool.and_eq_true,decide_eq_true_eq] at this;exact this
end Go.Proofs.YtdanidpleofjgaaGreat
