/- Part 13: contracts of functions, plain facts. -/
import Derived.Test.YtldbakcpcfdlaaaGreatP12
set_option linter.all false
set_option maxRecDepth 100000
set_option maxHeartbeats 4000000
namespace Go.Proofs.YtldbakcpcfdlaaaGreat
open Go Go.RowKit Tryz
attribute [local irreducible] wpList Code.wp Ok
def iu (n a b:Int):
 Fn prog 86 [AV.int n,AV.int a,AV.int b] (AV.bool (aS n a b)):=by
 refine Fn.go 15 func86 ntmps86 (λW I a U=>?_);refine n4 λI a w U=>?_;refine U.rt ?_;exact bT (by simp only[aS,ge_iff_le])
def qw (n:Int):
 Fn prog 170 [AV.int n] (AV.bool (de n)):=by
 refine Fn.go 5 func170 ntmps170 (λW I a U=>?_);refine aA λI a w U=>?_;refine U.o (.cl (iu ..)) λU=>?_;refine aW ?_;rfl
def s9 (n:Int):
 Fn prog 177 [AV.int n] (AV.bool (dp n)):=by
 refine Fn.go 5 func177 ntmps177 (λW I a U=>?_);refine aA λI a w U=>?_;refine U.o (.cl (iu ..)) λU=>?_;refine aW ?_;rfl
def uL (s:cG):
 Fn prog 179 [s.av] (AV.bool (dB s)):=by
 refine Fn.go 11 func179 ntmps179 (λW I a U=>?_);refine aR λI a w U=>?_;refine U.o (.cl (iu ..)) λU=>?_;refine aV λI a w U=>?_;refine U.q .T (.cl (qw ..)) λU=>?_;refine cK ?_;rfl
def LH (s:cG):
 Fn prog 178 [s.av] (AV.bool (kr s)):=by
 refine Fn.go 10 func178 ntmps178 (λW I a U=>?_);refine aV λI a w U=>?_;refine U.o (.bd iI bf.nil) λU=>?_;refine U.o (n1 [_,_] [_,_] qh rfl rfl .tt .tt) λU=>?_;refine aA λI a w U=>?_;refine U.q .F (.cl (uL ..)) λU=>?_;refine cK ?_;exact bT (by simp[kr,eH])
def wQ (s t:cG):
 Fn prog 250 [s.av,t.av] (AV.bool (dy s t)):=by
 refine Fn.go 24 func250 ntmps250 (λW I a U=>?_);refine Bt λI a w U=>?_;refine U.rt ?_;rfl
def pq (n:Int):
 Fn prog 175 [AV.int n] (AV.int (cv n)):=by
 refine Fn.go 8 func175 ntmps175 (λW I a U=>?_);refine aA λI a w U=>?_;refine U.o (.c1 (qw ..)) λU=>?_;refine al λI a w U=>?_;refine cz (λab=>?_) λab=>?_
 .refine aW ?_;exact cj (by simp[cv,ab])
 refine aX λI a w U=>?_;refine U.o (A4 .tt .c (λ_=>by simp[de,aS] at ab;omega)) λU=>?_;refine aW ?_;exact cj (by simp[cv,ab])
def nt {b:Bool} (h:(!b)=true):b=false:=by simpa using h
def nf {b:Bool} (h:(!b)=false):b=true:=by simpa using h
def LI (a b:aJ):
 Fn prog 197 [a.av,b.av] (AV.bool (gx a b)):=by
 refine Fn.go 24 func197 ntmps197 (λW I a U=>?_);refine Kz λI a w U=>?_;refine U.q .T2 (.cl (wQ ..)) λU=>?_;refine ry ?_;rfl
def zH (n:Int):
 Fn prog 176 [AV.int n] (AV.bool (aS n 10 11)):=by
 refine Fn.go 5 func176 ntmps176 (λW I a U=>?_);refine aA λI a w U=>?_;refine U.o (.cl (iu ..)) λU=>?_;refine aW ?_;rfl
def U3 (n:Int):fC (n-10)=aS n 10 11:=by
 simp only[fC,aS];rw[Bool.eq_iff_iff];simp;omega
def ta (n:Int):
 Fn prog 297 [AV.int n] (AV.int (gY n)):=by
 refine Fn.go 9 func297 ntmps297 (λW I a U=>?_);refine aA λI a w U=>?_;refine U.o (.c1 (s9 ..)) λU=>?_;refine al λI a w U=>?_;refine cz (λab=>?_) λab=>?_
 .refine aW ?_;exact cj (by simp[gY,ab])
 refine aX λI a w U=>?_;refine U.o (tW .tt .c (λ_=>by simp[dp,aS] at ab;omega)) λU=>?_;refine U.o (A4 .tt .c (λ_=>by simp[dp,aS] at ab;omega)) λU=>?_;refine aW ?_;exact cj (by simp[gY,ab])
def U4 {α:Type} (p:α->Bool) (l:List α):dK p l<(l.length:Int)\/dK p l=-1:=by
 unfold dK;split
 .rename_i k h;have:=(List.findIdx?_eq_some_iff_getElem.1 h).1;left;omega
 right;rfl
def LJ (l:List (Answer)) (p:(Answer)->Bool) (fv:AV) (hf:∀x:Answer,x∈l->lg prog fv [x.av] (AV.bool (p x))):
 Fn prog 256 [j7 l,fv] (AV.int (dK p l)):=by
 refine Fn.go 19 func256 ntmps256 (λW I a U=>?_);have hle:=U.dD (t:=0) rfl;refine aU λI a w U=>?_;refine St.lo (σ:=Nat) (run 2 4 (run 11 8 [])) ⟨λk=>[(8,AV.int k)],λk=>[],λk=>k<=l.length/\∀i,i<k->p (ae l i)=false⟩ (λk=>l.length-k) 0 U ?aD ?bh;case aD=>exact⟨Nat.zero_le _,λi hi=>by omega⟩
 rintro k I a w aj U;obtain⟨hk,aT⟩:=aj;refine al λI a w U=>?_;refine cz (λab=>?_) λab=>?_
 .refine fm λI a w U=>?_;refine U.o (vQ (hf _ (bK ab)) .tt (an .tt aH)) λU=>?_;refine zt ?_;refine U.cd (λah=>?_) λah=>?_
  .refine cK ?_;exact cj (mQ ab aT ah).symm
  refine ax λI a w U=>?_;exact U.ag (k+1) (⟨ab,λi h1=>by rcases Nat.lt_succ_iff_lt_or_eq.1 h1 with h|h;exact aT i h;rw[h];exact ah⟩)
 refine zt ?_;refine aW ?_;exact cj (l9 om aT).symm
def LK (s:Server) (v:aJ):((eY s v.key==0)||!(cv v.aw.site !=cv s.site)||decide (0<=placeOf s.ar v.bD))=!rJ s v:=by
 have e:decide (0<=placeOf s.ar v.bD)=!decide (placeOf s.ar v.bD<0):=by rw[Bool.eq_iff_iff];simp
 rw[e];simp[rJ,bne]
def pr {v:aJ} (h:fi v=true):dp v.key=true:=by
 simp only[fi,Bool.and_eq_true] at h;exact h.1.1.1.1.1.1
def U5 (s:Server) (key:Int) (hk:dp key=true) (hl:s.aQ.length=3):
 Fn prog 252 [s.av,AV.int key] (AV.bool (eY s key !=0)):=by
 refine Fn.go 13 func252 ntmps252 (λW I a U=>?_);have hr:=ph hk;refine ax λI a w U=>?_;refine U.dk ?_;refine ee ?_;refine .o (.c1 (ta ..)) ?_;refine fQ ?_;refine .nil ?_;intro I a w U;refine zt ?_;refine U.rt ?_;rfl
def ji (a b:List ao):List ao:=b.foldl gT a
def LL {a b:cG} (h:dy a b=false) (h':dy b a=false):a=b:=by
 obtain⟨t,s⟩:=a;obtain⟨t',s'⟩:=b;simp[dy] at h h';simp;omega
def U6 {a b:cG} (h:dy a b=true):dy b a=false:=by
 obtain⟨t,s⟩:=a;obtain⟨t',s'⟩:=b;simp[dy] at h⊢;omega
def LM (e d:ao) (h:e.key=d.key):(if dy d.aw e.aw then e else d)=(if dy e.aw d.aw then d else e):=by
 cases h1:dy d.aw e.aw
 .cases h2:dy e.aw d.aw
  .have:=LL h1 h2;obtain⟨k,s⟩:=e;obtain⟨k',s'⟩:=d;simp at this h⊢;exact⟨h.symm,this⟩
  simp
 rw[U6 h1];simp
def LN:∀{l:List ao} {last:Int} {d:ao},dL last l=true->aS d.key (last+1) 5=true->dB d.aw=true->dL last (gT l d)=true
 |[],last,d,_,h,U=>by simp[gT,dL,h,U]
 |e::r,last,d,hl,h,U=>by
  simp only[dL,Bool.and_eq_true] at hl;obtain⟨⟨h1,h2⟩,h3⟩:=hl;unfold gT;split
  .rename_i hk;split
   .simp only[dL,Bool.and_eq_true];exact⟨⟨h,U⟩,hk▸h3⟩
   simp only[dL,Bool.and_eq_true];exact⟨⟨h1,h2⟩,h3⟩
  rename_i hk;split
  .rename_i bW;simp only[dL,Bool.and_eq_true];refine⟨⟨h,U⟩,⟨?_,h2⟩,h3⟩;simp[aS] at h1⊢;omega
  rename_i bW;simp only[dL,Bool.and_eq_true];refine⟨⟨h1,h2⟩,LN h3 ?_ U⟩;simp[aS] at h⊢;omega
def LO {a b:List ao} {k:Nat} (h:k<b.length):ji a (b.take (k+1))=gT (ji a (b.take k)) (ae b k):=by
 unfold ji;rw[ep h,List.foldl_append];rfl
def gm (a b:Answer):Bool:=decide (a.key<b.key)
def LP {n:Int}:dp n=true↔0<=n/\n<=5:=by simp[dp,aS]
def gO:cG:=⟨0,0⟩
def LQ {s:cG} (h:1<=s.time):dy gO s=true:=by
 obtain⟨t,u⟩:=s;have h:(1:Int)<=t:=h;have e:decide ((0:Int)<t)=true:=decide_eq_true om;show(decide ((0:Int)<t)||_)=true;rw[e];rfl
def U7 {s:cG} (h:1<=s.time):dy s gO=false:=by
 obtain⟨t,u⟩:=s;have h:(1:Int)<=t:=h;show(decide (t<(0:Int))||((t==(0:Int))&&decide (u<(0:Int))))=false;have e:decide (t<(0:Int))=false:=decide_eq_false om;have e2:(t==(0:Int))=false:=by simp;omega
 rw[e,e2];rfl
def B4 {f:Answer->Int}:∀{ks:List Int} {l:List Answer},ks.Pairwise (·<·)->(l.map f).Pairwise (·<·)->(∀a∈l,f a∈ks)->l.length<=ks.length
 |[],[],_,_,_=>Nat.le_refl _
 |[],a::l,_,_,h=>by have:=h a be;simp at this
 |y::ks,[],_,_,_=>by simp
 |y::ks,a::l,hk,hl,h=>by
  rw[List.pairwise_cons] at hk;rw[List.map_cons,List.pairwise_cons] at hl;by_cases LR:f a=y
  .have:l.length<=ks.length:=B4 hk.2 hl.2 λb hb=>by
    have h1:=h b (by simp[hb]);have h2:=hl.1 (f b) (List.mem_map.2 ⟨b,hb,rfl⟩);rcases List.mem_cons.1 h1 with h3|h3
    .omega
    exact h3
   simp;omega
  have By:y<f a:=by
   rcases List.mem_cons.1 (h a be) with h3|h3
   .exact absurd h3 LR
   exact hk.1 _ h3
  have:(a::l).length<=ks.length:=B4 hk.2 (by rw[List.map_cons,List.pairwise_cons];exact hl) λb hb=>by
   have h1:=h b hb;rcases List.mem_cons.1 h1 with h3|h3
   .rcases List.mem_cons.1 hb with rfl|hb
    .exact absurd h3 LR
    have h2:=hl.1 (f b) (List.mem_map.2 ⟨b,hb,rfl⟩);omega
   exact h3
  simp at this⊢;omega
def LS {α:Type} [Inhabited α] {f:α->Int} {l:List α} (h:∀i,0<i->i<l.length->f (ae l (i-1))<f (ae l i)):(l.map f).Pairwise (·<·):=by
 rw[List.pairwise_iff_getElem];intro i j hi hj j3;simp only[List.length_map] at hi hj;simp only[List.getElem_map];have e:∀k (hk:k<l.length),l[k]=ae l k:=λk hk=>by simp[ae,hk]
 rw[e i hi,e j hj];obtain⟨n,rfl⟩:∃n,j=i+1+n:=⟨j-(i+1),by omega⟩;clear j3;induction n with
 |zero=>have:=h (i+1) om hj;simpa using this
 |succ n ih=>
  have h1:=ih om
  have h2:=h (i+1+(n+1)) om hj
  rw[show i+1+(n+1)-1=i+1+n from by omega] at h2
  omega
def wR (c:Call):Bool:=!(((c.kind==1)&&decide (0<(c.au.length:Int)+c.aO.length))||((c.kind==2)&&(decide (0<c.val)||!eH c.aw))||!kr c.aw||decide ((c.keys.length:Int)<c.au.length))
def B5 (c:Call):Bool:=!(decide (0<(c.aO.length:Int))&&decide ((c.au.length:Int)<c.keys.length))
def B6 (c:Call) (time:Int):Bool:=if c.end_=0 then eH c.aw else !c.over&&aS c.end_ (c.bw+1) time&&((c.aO.length:Int)==0)&&(((c.kind==1)&&dB c.aw)||((c.kind==2)&&((c.au.length:Int)==c.keys.length)))
def LU (n:Nat):decide (0<(n:Int))=!decide (n=0):=by
 rw[Bool.eq_iff_iff];simp;omega
def LV (n m:Nat):((n:Int)==m)=decide (n=m):=by
 rw[Bool.eq_iff_iff];simp;omega
def U8 {n m:Nat} (h:n<=m):decide ((n:Int)<m)=!decide (n=m):=by
 rw[Bool.eq_iff_iff];simp;omega
def pt (w:aM):Bool:=!(!aS w.time 0 99999||((w.aF.length:Int) !=4)||decide (60<(w.aC.length:Int))||((w.seen.length:Int) !=2))
def qx (w:aM) (i:Nat):Bool:=((ae w.aF i).site==(i:Int))&&gN (ae w.aF i)
def uM (m:az):Bool:=!bY m
def uN (l:List ao):Bool:=!ck l
def Ge (w:aM) (k:Nat):(((ae w.aF k).site !=(k:Int))||!gN (ae w.aF k))=!qx w k:=by simp[qx,bne]
def LW (w:aM) (k:Nat):(!gN (ae w.aF k)||((ae w.aF k).site !=(k:Int)))=!qx w k:=by rw[Bool.or_comm,Ge]
def Gf {a b:cG} (h:∀x,dy x a=dy x b):a=b:=by
 have h1:=h a;have h2:=h b;have e:∀s:cG,dy s s=false:=λs=>by simp[dy]
 rw[e] at h1 h2;exact LL h1.symm h2
def rP (s:cG):Prop:=s=gO\/dB s=true
def mg (out:List ao) (a:Answer):List ao:=ji out a.bl.aK
def fw (c:Call):List ao:=c.au.foldl mg []
def qz (out:List ao) (a:Answer):List ao:=if a.yes then gT (ji out a.bl.aK) a.bl.bD else out
def jT (c:Call):List ao:=if c.end_=0 then c.ctx else if c.kind=1 then gT c.ctx ⟨ae c.keys 0,c.aw⟩ else c.au.foldl qz c.ctx
def jA (l:List aJ) (d:ao):Option aJ:=if cD l=true/\0<=placeOf l d then some (ae l (placeOf l d).toNat) else none
def LX (key:Int) (st:cG) (v:aJ):((v.key==key)&&([v.aw.time,v.aw.site]==[st.time,st.site]))=mR ⟨key,st⟩ v:=by
 obtain⟨t,s⟩:=st;obtain⟨vk,⟨vt,vs⟩,_,_,_,_⟩:=v;rw[Bool.eq_iff_iff];simp[mR,aJ.bD]
def U9 {l:List aJ} {d:ao} {k:Nat} (hc:cD l=true) (hk:k<l.length) (h:∀i,i<k->mR d (ae l i)=false) (hp:mR d (ae l k)=true):jA l d=some (ae l k):=by
 have e:placeOf l d=k:=mQ hk h hp;unfold jA;rw[e,if_pos ⟨hc,by omega⟩];rfl
def Va {l:List aJ} {d:ao} {k:Nat} (hk:l.length<=k) (h:∀i,i<k->mR d (ae l i)=false):jA l d=none:=by
 have e:placeOf l d=-1:=l9 hk h;unfold jA;rw[e,if_neg om]
def Vb {l:List aJ} {d:ao} (h:cD l=false):jA l d=none:=by
 unfold jA;rw[if_neg (by rw[h];simp)]
def wS {l:List aJ} {d:ao} (hc:cD l=true):(jA l d).isSome=decide (0<=placeOf l d):=by
 unfold jA;by_cases h:0<=placeOf l d
 .rw[if_pos ⟨hc,h⟩];simp[h]
 rw[if_neg (by simp[h])];simp[h]
def nI (l:List cG):Int:=l.foldl (λt s=>if t<s.time then s.time else t) 0
def zI {l:List cG} {k:Nat} (h:k<l.length):nI (l.take (k+1))=if nI (l.take k)<(ae l k).time then(ae l k).time else nI (l.take k):=by
 unfold nI;rw[ep h,List.foldl_append];rfl
def jj (l:List cG):Bool:=decide (nI l<9999)
def pw (site:Int) (l:List cG):cG:=if jj l then⟨nI l+1,site⟩ else⟨0,0⟩
def iv (l:List aJ) (v:aJ):Bool:=fi v&&decide (placeOf l v.bD<0)&&decide (l.length<80)
def LY (l:List ao) (v:ao):(jS l v).length=l.length+1:=by
 induction l with
 |nil=>rfl
 |cons x r ih=>unfold jS;split<;>simp[ih]
def cg:az:=⟨0,0,0,0,0,⟨0,0⟩,0,false,[],0,0,[],[],[]⟩
def mh (s:Server) (m:az) (st:cG):az:={cg with kind:=2,bj:=s.site,to:=m.bj,call:=m.call,key:=m.key,aw:=st}
def mi (s:Server) (m:az) (o:Option aJ):az:={cg with kind:=4,bj:=s.site,to:=m.bj,call:=m.call,key:=m.key,aw:=m.aw,yes:=o.isSome,ar:=o.toList}
def mj (s:Server) (m:az) (v:aJ):az:={cg with kind:=6,bj:=s.site,to:=m.bj,key:=v.key,aw:=v.aw}
def ml (s:Server) (m:az):az:={cg with kind:=8,bj:=s.site,to:=m.bj,key:=m.key,aw:=m.aw}
def nJ (s:Server) (m:az):az:={cg with kind:=10,bj:=s.site,to:=m.bj,slot:=m.slot,bX:=m.bX}
def mn (s:Server) (slot:Int):Bool:=s.up&&aS slot 0 2&&((ae s.aQ slot.toNat).fg==1)&&decide ((ae s.aQ slot.toNat).bX<9999)
def px (s:Server):Server:={s with up:=false,bq:=[]}
def py (s:Server):Server:={s with up:=true}
def jB (q:Call) (m:az):List az:=[{m with bj:=10+q.aB,to:=2*q.aB,call:=q.num},{m with bj:=10+q.aB,to:=2*q.aB+1,call:=q.num}]
def dF:List Answer->Answer->List Answer
 |[],a=>[a]
 |e::r,a=>if a.key<e.key then a::e::r else e::dF r a
def rQ (calls:List Call) (aB:Int):Int:=calls.foldl (λn q=>if q.aB=aB then q.num else n) 0
def qA (site:Nat):Server:=⟨site,true,(List.range 3).map λi=>if i%2=site%2 then⟨1,1⟩ else⟨0,0⟩,[],[],[],[]⟩
def oi:aM:=⟨0,(List.range 4).map qA,[],[],[[],[]]⟩
def B7 (s:cG):([s.time,s.site] !=[0,0])=!eH s:=by
 rw[Bool.eq_iff_iff];simp[eH];omega
def B8 (s:cG):([s.time,s.site]==[0,0])=eH s:=by
 rw[Bool.eq_iff_iff];simp[eH]
def LZ (q:Call):(decide (0<(q.aO.length:Int))&&decide ((q.au.length:Int)<q.keys.length))=!B5 q:=by simp[B5]
def Vc {n:Nat} (h:(20:Int)<n):decide (n<=20)=false:=by simp;omega
def Vd {x:aM} (h:pt x=true):0<=x.time/\x.time<=99999:=by
 simp only[pt,Bool.not_eq_true',Bool.or_eq_false_iff] at h;have:=h.1.1.1;simp[aS] at this;exact this
def zJ (l:List (List ao)):(!hasB uN l)=dh l.length λi=>ck (ae l i):=by
 rw[zj];exact yD rfl λi _=>by simp[uN]
def zK (l:List az):(!hasB uM l)=dh l.length λi=>bY (ae l i):=by
 rw[zj];exact yD rfl λi _=>by simp[uM]
def uO (q:Call):Prop:=q.keys.length<=1048576/\q.ctx.length<=1048576/\q.au.length<=1048576/\(∀y∈q.au,y.bl.aK.length<=1048576)/\q.aO.length<=1048576
def rR (s:Server) (h:po s):Fn prog 136 [s.av] s.av:=(zu s h).frozen λr c I a w _ U=>by
 obtain⟨I,U⟩:=U.fa 0 0 2;obtain⟨I,U⟩:=U.fa 1 0 3;obtain⟨I,U⟩:=U.fa 2 0 4;obtain⟨I,U⟩:=U.fa 3 0 5;obtain⟨I,U⟩:=U.fa 4 0 6;exact⟨_,_,_,U⟩
def L0 {l:List aJ} (v:aJ) (hc:cD l=true):(!fi v||(jA l ⟨v.key,v.aw⟩).isSome||decide (80<=(l.length:Int)))=!iv l v:=by
 rw[wS hc];have e:decide (80<=(l.length:Int))=!decide (l.length<80):=by rw[Bool.eq_iff_iff];simp;omega
 have e2:decide (0<=placeOf l ⟨v.key,v.aw⟩)=!decide (placeOf l v.bD<0):=by
  show decide (0<=placeOf l v.bD)=_;rw[Bool.eq_iff_iff];simp
 unfold iv;rw[e,e2];simp
def uP {l:List aJ} {v:aJ} (h:iv l v=true):fi v=true/\placeOf l v.bD<0/\l.length<80:=by
 unfold iv at h;simp only[Bool.and_eq_true,decide_eq_true_eq] at h;exact⟨h.1.1,h.1.2,h.2⟩
def L1 {α:Type} [Inhabited α] {p:α->Bool} {l:List α} {k:Nat} (hk:l.length<=k) (h:∀i,i<k->p (ae l i)=false):l.find? p=none:=by
 rw[List.find?_eq_none];intro x hx;obtain⟨i,hi,rfl⟩:=iq hx;rw[h i om];simp
def eI.small {s:Server} (h:eI s) (ho:s.aE.length<=1048576):po s:=⟨by have:=h.aQ;omega,s8 h.ar,s8 h.waits,ho,by have:=h.bq;omega⟩
def Ve {s:Server} {k:Nat} (od:s.ar.length<80) (hk:k<s.waits.length) (h:∀i,i<k->lz s (ae s.waits i)=false) (hp:lz s (ae s.waits k)=true):fo s=k:=by
 unfold fo;rw[if_pos od];exact mQ hk h hp
def eI.Gg {s:Server} (h:eI s) {v:aJ} (hc:iv s.waits v=true) (hp:placeOf s.ar v.bD<0):eI {s with waits:=fF s.waits v}:=by
 obtain⟨h1,h2,h3⟩:=uP hc;refine⟨h.aQ,h.ar,B0 h.waits h1 h2 h3,λx hx=>?_,h.bq⟩;rcases mS.1 hx with rfl|hx
 .exact hp
 exact h.apart x hx
def B9 {m:az} (h:bY m=true):0<=m.slot/\m.slot<3:=by
 simp only[bY,Bool.and_eq_true,aS,decide_eq_true_eq] at h;omega
def nK {m:az} (h:bY m=true):cD m.ar=true/\cD m.waits=true/\fU m.aE=true/\ck m.aK=true:=by
 simp only[bY,Bool.and_eq_true] at h;exact⟨h.1.1.2,h.1.2,h.2,h.1.1.1.1.1.2⟩
def Vf {s:Server} {slot:Int} {y:ct} {key:Int} (h:gY key≠slot) (h0:0<=slot) (hk:dp key=true):eY {s with aQ:=s.aQ.set slot.toNat y} key=eY s key:=by
 have hr:=ph hk;unfold eY ae;simp only[List.getD_eq_getElem?_getD];rw[List.getElem?_set_ne om]
def Vg {s:Server} {slot:Int} {y:ct} {key:Int} (h:gY key=slot) (h0:0<=slot) (h3:slot<s.aQ.length):eY {s with aQ:=s.aQ.set slot.toNat y} key=y.fg:=by
 unfold eY ae;simp only[List.getD_eq_getElem?_getD,h];rw[List.getElem?_set_self om];rfl
def bE.L3 {s:Server} (h:bE s) {slot:Int} {y:ct} (h0:0<=slot) (hy:pg y=true) (hv:∀v∈s.ar,gY v.key=slot->y.fg≠0) (hw:∀v∈s.waits,gY v.key=slot->y.fg≠0) (h3:slot<3):bE {s with aQ:=s.aQ.set slot.toNat y}:=by
 have key:∀v:aJ,fi v=true->eY s v.key≠0->(gY v.key=slot->y.fg≠0)->eY {s with aQ:=s.aQ.set slot.toNat y} v.key≠0:=λv Vh h1 h2=>by
  by_cases U:gY v.key=slot
  .rw[Vg U h0 (by rw[h.aQ];omega)];exact h2 U
  rw[Vf U h0 (pr Vh)];exact h1
 refine⟨h.site,by show(s.aQ.set _ _).length=3;rw[List.length_set];exact h.aQ,h.ar,h.waits,h.aE,h.bq,h.up,λx hx=>?_,λv nL=>key v (g7 h.ar v nL) (h.here v nL) (hv v nL),λv nL=>key v (g7 h.waits v nL) (h.oe v nL) (hw v nL),h.og,h.apart,h.oh⟩;rcases List.mem_or_eq_of_mem_set hx with hx|rfl
 .exact h.cX x hx
 exact hy
def bE.wait {s:Server} (h:bE s) {v:aJ} (hc:iv s.waits v=true) (hp:placeOf s.ar v.bD<0) (hf:cv v.aw.site≠cv s.site) (bJ:eY s v.key≠0):bE {s with waits:=fF s.waits v}:=by
 have aj:=h.ok.Gg hc hp;refine⟨h.site,h.aQ,h.ar,aj.waits,h.aE,h.bq,h.up,h.cX,h.here,λx hx=>?_,λx hx=>?_,λx hx=>qv (aj.apart x hx),h.oh⟩
 .rcases mS.1 hx with rfl|hx
  .exact bJ
  exact h.oe x hx
 rcases mS.1 hx with rfl|hx
 .exact hf
 exact h.og x hx
def Vi {s:Server} (h:bE s):bE (py s):=⟨h.site,h.aQ,h.ar,h.waits,h.aE,h.bq,λe=>(by cases e),h.cX,h.here,h.oe,h.og,h.apart,h.oh⟩
def Vj {s:Server} (h:bE s):bE (px s):=⟨h.site,h.aQ,h.ar,h.waits,h.aE,rfl,λ_=>rfl,h.cX,h.here,h.oe,h.og,h.apart,h.oh⟩
def zL {s:Server} {slot:Int} (h:mn s slot=true):s.up=true/\0<=slot/\slot<=2/\(ae s.aQ slot.toNat).fg=1/\(ae s.aQ slot.toNat).bX<9999:=by
 unfold mn aS at h;simp only[Bool.and_eq_true,decide_eq_true_eq] at h;exact⟨h.1.1.1,h.1.1.2.1,h.1.1.2.2,by simpa using h.1.2,h.2⟩
def bE.small {s:Server} (h:bE s):po s:=h.ok.small (by have:=hP h.aE;omega)
def Vk {a b d:Answer} (h:gm a b=true) (h':gm b d=true):gm a d=true:=by
 unfold gm at*;rw[decide_eq_true_eq] at*;omega
def Vl {l:List Answer} (h:l.Pairwise λa b=>gm a b=true) {i j:Nat} (hi:i<l.length) (hj:j<l.length) (he:(ae l i).key=(ae l j).key):i=j:=by
 rcases Nat.lt_trichotomy i j with bW|h'|bW
 .have:=zA h bW hj;unfold gm at this;rw[decide_eq_true_eq] at this;omega
 .exact h'
 have:=zA h bW hi;unfold gm at this;rw[decide_eq_true_eq] at this;omega
def uQ:∀{l:List Answer} {a x:Answer},x∈dF l a↔x=a\/x∈l
 |[],a,x=>by simp[dF]
 |e::r,a,x=>by
  unfold dF;split
  .simp
  rw[List.mem_cons,uQ,List.mem_cons];constructor
  .rintro(h|h|h)<;>simp[h]
  rintro(h|h|h)<;>simp[h]
def uR:∀(l:List Answer) (a:Answer),(dF l a).length=l.length+1
 |[],a=>rfl
 |e::r,a=>by unfold dF;split<;>simp[uR r a]
def Gh:∀{l:List Answer} {a:Answer},(l.Pairwise λa b=>gm a b=true)->(∀x∈l,x.key≠a.key)->(dF l a).Pairwise λa b=>gm a b=true
 |[],a,_,_=>by simp[dF]
 |e::r,a,h,hn=>by
  unfold dF;rw[List.pairwise_cons] at h;have he:=hn e be;split
  .rename_i hl;rw[List.pairwise_cons];refine⟨λx hx=>?_,List.pairwise_cons.2 h⟩;rcases List.mem_cons.1 hx with rfl|hx
   .unfold gm;rw[decide_eq_true_eq];exact hl
   have:=h.1 x hx;unfold gm at*;rw[decide_eq_true_eq] at*;omega
  rename_i hl;rw[List.pairwise_cons];refine⟨λx hx=>?_,Gh h.2 λx hx=>hn x (by simp[hx])⟩;rcases uQ.1 hx with rfl|hx
  .unfold gm;rw[decide_eq_true_eq];omega
  exact h.1 x hx
def L4 {α:Type} [Inhabited α] {l:List α} {i:Nat} {a x:α} (h:x∈l.set i a):x=a\/∃k,k<l.length/\k≠i/\x=ae l k:=by
 obtain⟨k,hk,rfl⟩:=List.getElem_of_mem h;rw[List.length_set] at hk;by_cases e:i=k
 .subst e;left;simp
 right;refine⟨k,hk,λe'=>e e'.symm,?_⟩;rw[List.getElem_set_ne e];simp[ae,hk]
def Vm {α:Type} [Inhabited α] {l:List α} {i k:Nat} {a:α} (h:k<l.length) (bH:k≠i):ae l k∈l.set i a:=by
 rw[List.mem_iff_getElem];refine⟨k,by simpa using h,?_⟩;rw[List.getElem_set_ne (λe=>bH e.symm)];simp[ae,h]
def wT {α:Type} [Inhabited α] {l:List α} {i j:Nat} {x:α} (h:i<l.length):ae (l.set i x) j=if j=i then x else ae l j:=by
 unfold ae;simp only[List.getD_eq_getElem?_getD];rw[List.getElem?_set];by_cases e:i=j
 .subst e;simp[h]
 rw[if_neg e,if_neg λe'=>e e'.symm]
def L5 (l:List aJ) (v:aJ):(!fi v||decide (0<=placeOf l v.bD)||((l.length:Int)==80))=!(fi v&&decide (placeOf l v.bD<0)&&!decide (l.length=80)):=by
 have e:((l.length:Int)==80)=decide (l.length=80):=by rw[Bool.eq_iff_iff];simp;omega
 have e2:decide (0<=placeOf l v.bD)=!decide (placeOf l v.bD<0):=by rw[Bool.eq_iff_iff];simp
 rw[e,e2];simp
def L6 {l:List aJ} (v:aJ) (h:cD l=true):(fi v&&decide (placeOf l v.bD<0)&&!decide (l.length=80))=iv l v:=by
 have hl:=gV h;have e:(!decide (l.length=80))=decide (l.length<80):=by rw[Bool.eq_iff_iff];simp;omega
 unfold iv;rw[e]
def Vn {s:Server} (h:eI s) {i:Nat} (hi:i<s.waits.length) (hn:iv s.ar (ae s.waits i)=false):80<=s.ar.length:=by
 have h1:=g7 h.waits _ (bK hi);have h2:=h.apart _ (bK hi);unfold iv at hn;rw[h1] at hn;simp only[Bool.true_and,Bool.and_eq_false_iff,decide_eq_false_iff_not] at hn;rcases hn with hn|hn
 .exact absurd h2 hn
 omega
def L7 (s:Server) (v:aJ) (h1:cD s.ar=true) (h2:cD s.waits=true):(!(jA s.ar ⟨v.key,v.aw⟩).isSome&&!(jA s.waits ⟨v.key,v.aw⟩).isSome)=decide (placeOf s.ar v.bD<0/\placeOf s.waits v.bD<0):=by
 rw[wS h1,wS h2,Bool.eq_iff_iff];show _↔decide (placeOf s.ar ⟨v.key,v.aw⟩<0/\placeOf s.waits ⟨v.key,v.aw⟩<0)=true;simp
def L8 (s:Server) (slot:Int):(!s.up||!aS slot 0 2||((ae s.aQ slot.toNat).fg !=1)||decide (9999<=(ae s.aQ slot.toNat).bX))=!mn s slot:=by
 have e:decide (9999<=(ae s.aQ slot.toNat).bX)=!decide ((ae s.aQ slot.toNat).bX<9999):=by rw[Bool.eq_iff_iff];simp
 unfold mn;rw[e];simp[bne]
def L9 {s:Server} {slot:Int} (he:aS slot 0 2=true->(ae s.aQ slot.toNat).bX<=9999):(!s.up||!aS slot 0 2||((ae s.aQ slot.toNat).fg !=1)||((ae s.aQ slot.toNat).bX==9999))=!mn s slot:=by
 unfold mn;cases h:aS slot 0 2
 .simp
 have:=he h;have e:((ae s.aQ slot.toNat).bX==9999)=!decide ((ae s.aQ slot.toNat).bX<9999):=by rw[Bool.eq_iff_iff];simp;omega
 rw[e];simp[bne]
def Call.wU (q:Call) (n:Value):AV:=.agg [AV.int q.aB,AV.int q.num,AV.int q.kind,fM q.keys,AV.int q.val,bm q.ctx,AV.int q.bw,AV.int q.end_,AV.bool q.over,AV.int q.aw.time,AV.int q.aw.site,j7 q.au,.val n]
def uS (key:Int):az:={cg with kind:=3,key:=key}
def uT (d:ao):az:={cg with kind:=3,key:=d.key,aw:=d.aw}
def aM.Vo (w:aM) (r:Value×Value×Value×Value):AV:=.agg [.int w.time,.val r.1,.val r.2.1,.val r.2.2.1,.val r.2.2.2]
def Ca (x:cG):
 Fn prog 203 [x.av,x.av] (AV.bool true):=by
 refine Fn.go 15 func203 ntmps203 (λW I a U=>?_);refine et λI a w U=>?_;refine U.cd (λab=>?_) λab=>?_
 .exfalso;simp at ab;skip
 refine bP λI a w U=>?_;refine U.cd (λah=>?_) λah=>?_
 .exfalso;simp at ah;skip
 refine aW ?_;rfl
def Vp (x:ao):
 Fn prog 267 [x.av,x.av] (AV.bool true):=by
 refine Fn.go 16 func267 ntmps267 (λW I a U=>?_);refine et λI a w U=>?_;refine U.cd (λab=>?_) λab=>?_
 .exfalso;simp at ab;skip
 refine aR λI a w U=>?_;refine U.o (.c2 (Ca ..)) λU=>?_;refine al λI a w U=>?_;refine U.cd (λah=>?_) λah=>?_
 .exfalso;simp at ah;skip
 refine aW ?_;rfl
def tb (l:List (ao)):
 Fn prog 204 [bm l,bm l] (AV.bool true):=by
 refine Fn.go 27 func204 ntmps204 (λW I a U=>?_);have hle:=U.dD (t:=0) rfl;refine gy λI a w U=>?_;refine U.cd (λab=>?_) λab=>?_
 .exfalso;simp at ab;skip
 refine al λI a w U=>?_;refine St.lo (σ:=Nat) (run 2 4 (run 16 11 [])) ⟨λk=>[(5,AV.int k)],λk=>[],λk=>k<=l.length⟩ (λk=>l.length-k) 0 U ?aD ?bh;case aD=>exact Nat.zero_le _
 rintro k I a w aj U;have hk:k<=l.length:=aj;refine aU λI a w U=>?_;refine cz (λah=>?_) λah=>?_
 .refine zt ?_;refine U.dk ?_;refine kz ?_;refine .o (.c2 (Vp ..)) ?_;refine br ?_;refine .nil ?_;intro I a w U;refine ba ?_;refine U.cd (λai=>?_) λai=>?_
  .exfalso;simp at ai;skip
  refine aI λI a w U=>?_;exact U.ag (k+1) (ah)
 refine zt ?_;refine aW ?_;rfl
def Ma (x:aJ):
 Fn prog 107 [x.av,x.av] (AV.bool true):=by
 refine Fn.go 37 func107 ntmps107 (λW I a U=>?_);refine et λI a w U=>?_;refine U.cd (λab=>?_) λab=>?_
 .exfalso;simp at ab;skip
 refine aR λI a w U=>?_;refine U.o (.c2 (Ca ..)) λU=>?_;refine al λI a w U=>?_;refine U.cd (λah=>?_) λah=>?_
 .exfalso;simp at ah;skip
 refine bP λI a w U=>?_;refine U.cd (λai=>?_) λai=>?_
 .exfalso;simp at ai;skip
 refine bP λI a w U=>?_;refine U.cd (λaG=>?_) λaG=>?_
 .exfalso;simp at aG;skip
 refine bP λI a w U=>?_;refine U.cd (λaL=>?_) λaL=>?_
 .exfalso;simp at aL;skip
 refine aR λI a w U=>?_;refine U.o (.cl (tb ..)) λU=>?_;refine al λI a w U=>?_;refine U.cd (λbc=>?_) λbc=>?_
 .exfalso;simp at bc;skip
 refine aW ?_;rfl
def Cb (l:List (aJ)):
 Fn prog 40 [cm l,cm l] (AV.bool true):=by
 refine Fn.go 27 func40 ntmps40 (λW I a U=>?_);have hle:=U.dD (t:=0) rfl;refine gy λI a w U=>?_;refine U.cd (λab=>?_) λab=>?_
 .exfalso;simp at ab;skip
 refine al λI a w U=>?_;refine St.lo (σ:=Nat) (run 2 4 (run 16 11 [])) ⟨λk=>[(5,AV.int k)],λk=>[],λk=>k<=l.length⟩ (λk=>l.length-k) 0 U ?aD ?bh;case aD=>exact Nat.zero_le _
 rintro k I a w aj U;have hk:k<=l.length:=aj;refine aU λI a w U=>?_;refine cz (λah=>?_) λah=>?_
 .refine zt ?_;refine U.dk ?_;refine kz ?_;refine .o (.c2 (Ma ..)) ?_;refine br ?_;refine .nil ?_;intro I a w U;refine ba ?_;refine U.cd (λai=>?_) λai=>?_
  .exfalso;simp at ai;skip
  refine aI λI a w U=>?_;exact U.ag (k+1) (ah)
 refine zt ?_;refine aW ?_;rfl
def Vq (x:az):
 Fn prog 206 [x.av,x.av] (AV.bool true):=by
 refine Fn.go 80 func206 ntmps206 (λW I a U=>?_);refine et λI a w U=>?_;refine U.cd (λab=>?_) λab=>?_
 .exfalso;simp at ab;skip
 refine bP λI a w U=>?_;refine U.cd (λah=>?_) λah=>?_
 .exfalso;simp at ah;skip
 refine bP λI a w U=>?_;refine U.cd (λai=>?_) λai=>?_
 .exfalso;simp at ai;skip
 refine bP λI a w U=>?_;refine U.cd (λaG=>?_) λaG=>?_
 .exfalso;simp at aG;skip
 refine bP λI a w U=>?_;refine U.cd (λaL=>?_) λaL=>?_
 .exfalso;simp at aL;skip
 refine aR λI a w U=>?_;refine U.o (.c2 (Ca ..)) λU=>?_;refine al λI a w U=>?_;refine U.cd (λbc=>?_) λbc=>?_
 .exfalso;simp at bc;skip
 refine bP λI a w U=>?_;refine U.cd (λaY=>?_) λaY=>?_
 .exfalso;simp at aY;skip
 refine aR λI a w U=>?_;refine U.o (o1 .tt .tt n7) λU=>?_;refine zt ?_;refine U.cd (λbz=>?_) λbz=>?_
 .exfalso;simp at bz;skip
 refine aR λI a w U=>?_;refine U.o (.cl (tb ..)) λU=>?_;refine al λI a w U=>?_;refine U.cd (λbR=>?_) λbR=>?_
 .exfalso;simp at bR;skip
 refine bP λI a w U=>?_;refine U.cd (λdO=>?_) λdO=>?_
 .exfalso;simp at dO;skip
 refine bP λI a w U=>?_;refine U.cd (λeE=>?_) λeE=>?_
 .exfalso;simp at eE;skip
 refine aR λI a w U=>?_;refine U.o (.cl (Cb ..)) λU=>?_;refine al λI a w U=>?_;refine U.cd (λjU=>?_) λjU=>?_
 .exfalso;simp at jU;skip
 refine aR λI a w U=>?_;refine U.o (.cl (Cb ..)) λU=>?_;refine al λI a w U=>?_;refine U.cd (λmW=>?_) λmW=>?_
 .exfalso;simp at mW;skip
 refine aR λI a w U=>?_;refine U.o (.cl (tb ..)) λU=>?_;refine al λI a w U=>?_;refine U.cd (λoj=>?_) λoj=>?_
 .exfalso;simp at oj;skip
 refine aW ?_;rfl
def Vr (l:List (az)):
 Fn prog 109 [dW l,dW l] (AV.bool true):=by
 refine Fn.go 27 func109 ntmps109 (λW I a U=>?_);have hle:=U.dD (t:=0) rfl;refine gy λI a w U=>?_;refine U.cd (λab=>?_) λab=>?_
 .exfalso;simp at ab;skip
 refine al λI a w U=>?_;refine St.lo (σ:=Nat) (run 2 4 (run 16 11 [])) ⟨λk=>[(5,AV.int k)],λk=>[],λk=>k<=l.length⟩ (λk=>l.length-k) 0 U ?aD ?bh;case aD=>exact Nat.zero_le _
 rintro k I a w aj U;have hk:k<=l.length:=aj;refine aU λI a w U=>?_;refine cz (λah=>?_) λah=>?_
 .refine zt ?_;refine U.dk ?_;refine kz ?_;refine .o (.c2 (Vq ..)) ?_;refine br ?_;refine .nil ?_;intro I a w U;refine ba ?_;refine U.cd (λai=>?_) λai=>?_
  .exfalso;simp at ai;skip
  refine aI λI a w U=>?_;exact U.ag (k+1) (ah)
 refine zt ?_;refine aW ?_;rfl
def Vs (x:Answer):
 Fn prog 304 [x.av,x.av] (AV.bool true):=by
 refine Fn.go 21 func304 ntmps304 (λW I a U=>?_);refine et λI a w U=>?_;refine U.cd (λab=>?_) λab=>?_
 .exfalso;simp at ab;skip
 refine aR λI a w U=>?_;refine U.o (o1 .tt .tt n7) λU=>?_;refine zt ?_;refine U.cd (λah=>?_) λah=>?_
 .exfalso;simp at ah;skip
 refine aR λI a w U=>?_;refine U.o (.c2 (Ma ..)) λU=>?_;refine al λI a w U=>?_;refine U.cd (λai=>?_) λai=>?_
 .exfalso;simp at ai;skip
 refine aW ?_;rfl
def Vt (l:List (Answer)):
 Fn prog 270 [j7 l,j7 l] (AV.bool true):=by
 refine Fn.go 27 func270 ntmps270 (λW I a U=>?_);have hle:=U.dD (t:=0) rfl;refine gy λI a w U=>?_;refine U.cd (λab=>?_) λab=>?_
 .exfalso;simp at ab;skip
 refine al λI a w U=>?_;refine St.lo (σ:=Nat) (run 2 4 (run 16 11 [])) ⟨λk=>[(5,AV.int k)],λk=>[],λk=>k<=l.length⟩ (λk=>l.length-k) 0 U ?aD ?bh;case aD=>exact Nat.zero_le _
 rintro k I a w aj U;have hk:k<=l.length:=aj;refine aU λI a w U=>?_;refine cz (λah=>?_) λah=>?_
 .refine zt ?_;refine U.dk ?_;refine kz ?_;refine .o (.c2 (Vs ..)) ?_;refine br ?_;refine .nil ?_;intro I a w U;refine ba ?_;refine U.cd (λai=>?_) λai=>?_
  .exfalso;simp at ai;skip
  refine aI λI a w U=>?_;exact U.ag (k+1) (ah)
 refine zt ?_;refine aW ?_;rfl
def Vu (l:List (List ao)):
 Fn prog 111 [lG l,lG l] (AV.bool true):=by
 refine Fn.go 27 func111 ntmps111 (λW I a U=>?_);have hle:=U.dD (t:=0) rfl;refine gy λI a w U=>?_;refine U.cd (λab=>?_) λab=>?_
 .exfalso;simp at ab;skip
 refine al λI a w U=>?_;refine St.lo (σ:=Nat) (run 2 4 (run 16 11 [])) ⟨λk=>[(5,AV.int k)],λk=>[],λk=>k<=l.length⟩ (λk=>l.length-k) 0 U ?aD ?bh;case aD=>exact Nat.zero_le _
 rintro k I a w aj U;have hk:k<=l.length:=aj;refine aU λI a w U=>?_;refine cz (λah=>?_) λah=>?_
 .refine zt ?_;refine U.dk ?_;refine kz ?_;refine .o (.cl (tb ..)) ?_;refine br ?_;refine .nil ?_;intro I a w U;refine ba ?_;refine U.cd (λai=>?_) λai=>?_
  .exfalso;simp at ai;skip
  refine aI λI a w U=>?_;exact U.ag (k+1) (ah)
 refine zt ?_;refine aW ?_;rfl
structure mo (l:List Answer) (v:Answer) (k:Nat) (done:Bool) (out:List Answer):Prop where
 hk:k<=l.length
 eq:dF l v=if done then out++l.drop k else out++dF (l.drop k) v
 len:out.length<=k+done.toNat
def mo.zero (l:List Answer) (v:Answer):mo l v 0 false []:=⟨Nat.zero_le _,by simp,by simp⟩
def ot (q:Call) (a:Answer) (k:Nat):List ao:=(q.aO.take k).filter λd=>decide (d≠a.bl.bD)
def Vv {q:Call} {a:Answer} {k:Nat} (h:k<q.aO.length) (he:ae q.aO k=a.bl.bD):ot q a k=ot q a (k+1):=(mV h (by simp[he])).symm
def Vw {q:Call} {a:Answer} {k:Nat} (h:k<q.aO.length) (he:ae q.aO k≠a.bl.bD):ot q a k++[ae q.aO k]=ot q a (k+1):=(mU h (by simp[he])).symm
def Mb (q:Call) (x:Answer) (k:Nat):(((((ot q x k).map ao.cells).length:Int)==0)&&decide (0<(q.aO.length:Int)))=decide (ot q x k=[]/\q.aO≠[]):=by
 rw[List.length_map,Bool.eq_iff_iff];simp;intro _;exact⟨λh e=>by rw[e] at h;simp at h,λh=>by cases hq:q.aO with|nil=>exact absurd hq h|cons _ _=>simp⟩
def Mc:∀{l:List Answer} {a:Answer} {k:Nat},k<=l.length->(∀i,i<k->(ae l i).key<a.key)->(k<l.length->¬(ae l k).key<a.key)->(∀x∈l,x.key≠a.key)->l.take k++a::l.drop k=dF l a
 |[],a,k,h,_,_,_=>by obtain rfl:k=0:=by simpa using h
                     rfl
 |e::r,a,0,_,_,h2,h3=>by
  have h2:=h2 be;have h3:=h3 e be;have:a.key<e.key:=by have h4:¬e.key<a.key:=h2;omega
  unfold dF;rw[if_pos this];rfl
 |e::r,a,k+1,h,h1,h2,h3=>by
  have h0:e.key<a.key:=h1 0 om;unfold dF;rw[if_neg om];show e::(r.take k++a::r.drop k)=_;rw[Mc (by simpa using h) (λi hi=>h1 (i+1) om) (λhl=>h2 (by simpa using hl)) λx hx=>h3 x (by simp[hx])]
def Vx (m:az) (d:ao):
 Fn prog 355 [d.av,AV.ptr m.cells] (AV.bool (decide (d.key=m.key))):=by
 refine Fn.go 9 func355 ntmps355 (λW I a U=>?_);refine et λI a w U=>?_;refine U.rt ?_;exact congrArg AV.bool (by rw[Bool.eq_iff_iff];simp)
def Vy (l:List aJ):
 Fn prog 158 [cm l] (AV.fn 240 [AV.ptr [cm l]]):=by
 refine Fn.go 4 func158 ntmps158 (λW I a U=>?_);refine zt ?_;refine U.o (vM .tt (by first|exact cL rfl|exact cN|exact cO|exact cP)) λU=>?_;refine al λI a w U=>?_;refine U.o (nj (an .tt aH)) λU=>?_;refine aW ?_;rfl
def Vz (m:az) (d:ao):
 Fn prog 346 [d.av,AV.ptr m.cells] (AV.bool (decide (d=⟨m.key,m.aw⟩))):=by
 refine Fn.go 11 func346 ntmps346 (λW I a U=>?_);refine fm λI a w U=>?_;refine U.o (.bd fE (.k (.t bf.nil))) λU=>?_;refine U.o (n1 [_,_,_] [_,_,_] yU rfl rfl .tt .tt) λU=>?_;refine aW ?_;exact congrArg AV.bool (zx d ⟨m.key,m.aw⟩)
def Md (x:Int):fC (x-10)=aS x 10 11:=by
 unfold fC aS;rw[Bool.eq_iff_iff];simp;omega
def rS (l:List Call) (aB:Int):Nat->Int
 |0=>0
 |k+1=>if(ae l k).aB=aB then(ae l k).num else rS l aB k
def VA (l:List Call) (aB:Int) {k:Nat} (hk:k<=l.length) (h:l.length<=k):rS l aB k=rQ l aB:=by
 have key:∀k,k<=l.length->rS l aB k=(l.take k).foldl (λn q=>if q.aB=aB then q.num else n) 0:=by
  intro k;induction k with
  |zero=>intro _;simp[rS]
  |succ k ih=>intro h;rw[ep om,List.foldl_append];show(if _ then _ else rS l aB k)=_;rw[ih om];rfl
 unfold rQ;rw[key k hk,List.take_of_length_le h]
def VB {l:List Call} {aB:Int} {k:Nat} (h:(ae l k).aB=aB):(ae l k).num=rS l aB (k+1):=by show _=(if _ then _ else _);rw[if_pos h]
def VC {l:List Call} {aB:Int} {k:Nat} (h:¬(ae l k).aB=aB):rS l aB k=rS l aB (k+1):=by show _=(if _ then _ else _);rw[if_neg h]
def gP (w:aM) (e:Ev):List az:=if e.kind=5\/e.iB=0 then w.aC.take e.word.toNat++w.aC.drop (e.word.toNat+1) else w.aC
def VD (w:aM) (e:Ev):(if e.kind=5\/e.iB=0 then{w with aC:=w.aC.take e.word.toNat++w.aC.drop (e.word.toNat+1)} else w)={w with aC:=gP w e}:=by unfold gP;split<;>rfl
def VE {α:Type} [Inhabited α] {l:List α} {i:Nat}:l.set i (ae l i)=l:=by
 apply List.ext_getElem?;intro j;rw[List.getElem?_set];split
 .rename_i h;subst h;split
  .rename_i h;simp[ae,h]
  rename_i h;simp at h;simp[h]
 rfl
def wV:Nat->List Server
 |0=>[]
 |k+1=>wV k++[qA k]
def Gi:∀k,(wV k).length=k
 |0=>rfl
 |k+1=>by show(wV k++[qA k]).length=_;rw[List.length_append,Gi k];rfl
def VF (l:List Call) (h:l.length<=1048576):
 gR prog 285 [jb l] 45 13 (l.map Call.cells):=by
 refine gR.intro 8 func285 rfl ntmps285 rfl aq (λW I a U=>?_);refine aA λI a w U=>?_;obtain⟨qa,ca,VG,U⟩:=U.Tz (t:=3) rfl;refine U.o (Tx gz .tt .c) λU=>?_;refine zt ?_;refine U.cd (λab=>?_) λab=>?_
 .refine al λI a w U=>?_;have U:=U.en (sz:=13) 45;have nh:l=[]:=List.map_eq_nil_iff.1 (VG (by simpa using ab));subst nh;exact U.rq (r:=2) 0 rfl rfl rfl rfl
 refine zt ?_;refine U.l0 λb5 I a w U=>?_;refine U.m λU=>?_;refine U.ap 0 λv7 a w U=>?_;refine al λI a w U=>?_;exact U.rq (r:=2) 0 rfl rfl rfl rfl
def VH (x:Int):Prop:=-4611686018427387904<=x/\x<=4611686018427387904
def Ev.VI (e:Ev):Prop:=∀x∈e.ints,VH x
structure Gj where
 w:aM
 list:List Ev
 lv:Value
def VJ {k:Nat} (h:k<4):qA k=ae oi.aF k:=by
 match k,h with
 |0,_=>rfl
 |1,_=>rfl
 |2,_=>rfl
 |3,_=>rfl
end Go.Proofs.YtldbakcpcfdlaaaGreat
