/- Part 13: contracts of functions, plain facts. -/
import Derived.Test.YtldbakcpcfdlaaaGreatP10
set_option linter.all false
set_option maxRecDepth 100000
set_option maxHeartbeats 4000000
namespace Go.Proofs.YtldbakcpcfdlaaaGreat
open Go Go.RowKit Tryz
attribute [local irreducible] wpList Code.wp Ok
def Db (n:Int):
 Fn prog 225 [AV.int n] (AV.bool (eF n)):=by
 refine Fn.go 5 func225 ntmps225 (λW I a U=>?_);refine aG λI a w U=>?_;refine U.o (.cl (jI ..)) λU=>?_;refine bf ?_;rfl
def Gb (s:Server):(!cM s.site||((s.aD.length:Int) !=3)||!ct s.an||!ct s.waits||!gz s.aE||!gz s.ba||(!s.up&&decide (0<(s.ba.length:Int))))=!vm s:=by
 have e:((s.aD.length:Int) !=3)=!decide (s.aD.length=3):=by rw[Bool.eq_iff_iff];simp;omega
 have e2:decide (0<(s.ba.length:Int))=decide (0<s.ba.length):=by rw[Bool.eq_iff_iff];simp
 rw[e,e2];simp[vm]
def KO (x:de):(!aJ x.bw 0 9999||!aJ x.cm 0 2||((x.cm !=0)&&(x.bw==0)))=!sh x:=by simp[sh]
def l9 (d:aw):Bool:=du d.key&&dB d.ar
def adx (d:aw):bT [d]=l9 d:=by simp[bT,ez,l9,du]
def qN {l:List aw} (h:bT l=true) {d:aw} (hd:d∈l):l9 d=true:=by
 have:=Kb h d hd;simp[l9,du,aJ,this.2.2];omega
def sE:aA:=⟨0,⟨0,0⟩,0,0,0,[]⟩
def jY (v u:aA):Bool:=decide (v=u)
def nE (a:Answer) (s:cE):Bool:=!a.yes||bQ a.aY.ar s
def vD (key:Int) (a:Answer):Bool:=a.key==key
def cv (c:Call) (key:Int):Int:=df (vD key) c.au
def w9 (key:Int) (n:Int):Bool:=n==key
def iE (l:List Int) (key:Int):Bool:=hasB (w9 key) l
def dL (a:Answer):Bool:=if a.yes then dN a.aY&&(a.aY.key==a.key) else jY a.aY sE
def sF (c:Call) (i:Nat):Bool:=decide (0<=cv c (ab c.aL i).key)&&nE (ab c.au (cv c (ab c.aL i).key).toNat) (ab c.aL i).ar
def AN (c:Call):Bool:=!((c.kind==1&&decide (0<(c.au.length:Int)+c.aL.length))||(!(c.kind==1)&&((c.val !=0)||!dw c.ar)))
def SN (a:Answer):((a.yes&&(!dN a.aY||(a.aY.key !=a.key)))||(!a.yes&&!jY a.aY sE))=!dL a:=by
 unfold dL;cases a.yes<;>simp[bne]
def SO (c:Call) (k:Nat):(decide (cv c (ab c.aL k).key<0)||!nE (ab c.au (cv c (ab c.aL k).key).toNat) (ab c.aL k).ar)=!sF c k:=by
 unfold sF;have e:decide (cv c (ab c.aL k).key<0)=!decide (0<=cv c (ab c.aL k).key):=by rw[Bool.eq_iff_iff];simp
 rw[e];simp
def yH (a:Answer):Bool:=if a.yes then dN a.aY&&(a.aY.key==a.key) else du a.key&&jY a.aY sE
def xa (c:Call) (i:Nat):Bool:=decide (0<=cv c (ab c.aL i).key)&&bQ (ab c.au (cv c (ab c.aL i).key).toNat).aY.ar (ab c.aL i).ar
def lR {l:List Int} {n:Int}:iE l n=true↔n∈l:=by
 constructor
 .intro h;obtain⟨x,hx,he⟩:=Kc h;simp[w9] at he;exact he▸hx
 exactλh=>FI h (by simp[w9])
def SP {α:Type} [Inhabited α] {f:α->Int} {l:List α} (h:∀i,0<i->i<l.length->f (ab l (i-1))<f (ab l i)):(l.map f).Pairwise (·<·):=by
 rw[List.pairwise_iff_getElem];intro i j hi hj j5;simp only[List.length_map] at hi hj;simp only[List.getElem_map];have e:∀k (hk:k<l.length),l[k]=ab l k:=λk hk=>by simp[ab,hk]
 rw[e i hi,e j hj];obtain⟨n,rfl⟩:∃n,j=i+1+n:=⟨j-(i+1),by omega⟩;clear j5;induction n with
 |zero=>have:=h (i+1) om hj;simpa using this
 |succ n ih=>
  have h1:=ih om
  have h2:=h (i+1+(n+1)) om hj
  rw[show i+1+(n+1)-1=i+1+n from by omega] at h2
  omega
def KP (n:Nat):decide (0<(n:Int))=!decide (n=0):=by
 rw[Bool.eq_iff_iff];simp;omega
def SQ (n m:Nat):decide (0<(n:Int)+m)=!(decide (n=0)&&decide (m=0)):=by
 rw[Bool.eq_iff_iff];simp;omega
def fM (l:List Call) (k:Nat) (x:Int):Int:=(((l.take k).filter λd=>d.aj==x).length:Nat)
def Gc (l:List Call):fM l 0=λ_=>0:=by funext x;simp[fM]
def pR {l:List Call} {k:Nat} (h:k<l.length) (x:Int):fM l (k+1) x=if(ab l k).aj=x then fM l k x+1 else fM l k x:=by
 unfold fM;rw[fe h,List.filter_append,List.length_append];by_cases hx:(ab l k).aj=x<;>simp[hx]
def ady {l:List Call} {k:Nat} (h:k<l.length):(λy=>if y=(ab l k).aj then fM l k (ab l k).aj+1 else fM l k y)=fM l (k+1):=by
 funext y;rw[pR h];by_cases hy:y=(ab l k).aj
 .subst hy;simp
 rw[if_neg hy,if_neg λh=>hy h.symm]
def Dc (l:List Call) (k:Nat) (x:Int):0<=fM l k x/\fM l k x<=k:=by
 unfold fM;have:=List.length_filter_le (λd:Call=>d.aj==x) (l.take k);have h2:(l.take k).length<=k:=by simp;omega
 omega
def qO {a:Answer} (h:dL a=true) (hy:a.yes=true):dN a.aY=true/\a.aY.key=a.key:=by
 unfold dL at h;rw[hy] at h;simpa using h
def xb {a:Answer} (h:dL a=true) (hy:a.yes=false):a.aY=sE:=by
 unfold dL at h;rw[hy] at h;simpa[jY] using h
def sG {a:Answer} (h:dL a=true):bT a.aY.aQ=true:=by
 cases hy:a.yes
 .rw[xb h hy];rfl
 exact(iW (qO h hy).1).2.2
def AO {a:Answer} (h:dL a=true) (hy:a.yes=true):l9 a.aY.aU=true/\a.aY.aU=⟨a.key,a.aY.ar⟩:=by
 have h1:=qO h hy;have h2:=iW h1.1;refine⟨by simp[l9,aA.aU,h2.1,h2.2.1],?_⟩;rw[<-h1.2];rfl
def uf (s:Server) (i:Nat):Bool:=decide (0<=placeOf s.an (ab s.aE i))
def SR (x:de):(!aJ x.bw 0 9999||!aJ x.cm 0 2||((x.cm !=0)&&decide (x.bw<1)))=!sh x:=by
 rw[<-KO];by_cases h:aJ x.bw 0 9999=true
 .have e:decide (x.bw<1)=(x.bw==0):=by
   simp[aJ] at h;rw[Bool.eq_iff_iff];simp;omega
  rw[e]
 simp[h]
def adz {n:Nat} {f g:Nat->Bool}:cI n (λi=>f i&&g i)=(cI n f&&cI n g):=by
 rw[Bool.eq_iff_iff,Bool.and_eq_true,gF,gF,gF];exact⟨λh=>⟨λi hi=>(Bool.and_eq_true_iff.1 (h i hi)).1,λi hi=>(Bool.and_eq_true_iff.1 (h i hi)).2⟩,λh i hi=>Bool.and_eq_true_iff.2 ⟨h.1 i hi,h.2 i hi⟩⟩
def adA (s:Server):tU s.an s.aE=cI s.aE.length (uf s):=by
 unfold tU hasB;by_cases h:0<=df (missing s.an) s.aE
 .obtain⟨k,hk,hm⟩:=J7 h;have:uf s k=false:=by
   simp only[missing,decide_eq_true_eq] at hm;simp only[uf,decide_eq_false_iff_not];omega
  rw[eI hk this];simp[h]
 have aM:=CH (p:=missing s.an) (l:=s.aE) om;have:cI s.aE.length (uf s)=true:=by
  rw[gF];intro i hi;have:=aM i hi;simp only[missing,decide_eq_false_iff_not] at this;simp only[uf,decide_eq_true_eq];omega
 rw[this];simp[h]
def SS (s:Server) (i:Nat) (hc:ct s.an=true):(!(lq s.an ⟨(ab s.aE i).key,(ab s.aE i).ar⟩).isSome)=!uf s i:=by
 rw[Au hc];simp[uf]
def SU:∀{l:List aA} {v:aA} {n:Nat},n<=l.length->(∀i,i<n->fP (ab l i) v=true)->(n<l.length->fP (ab l n) v=false)->l.take n++v::l.drop n=fJ l v
 |[],v,n,h,_,_=>by have:n=0:=by simpa using h
                   subst this;rfl
 |x::r,v,0,_,_,h2=>by
  have:=h2 bn;have e:fP x v=false:=this;simp[fJ,e]
 |x::r,v,n+1,h,h1,h2=>by
  have e:fP x v=true:=h1 0 om;have ih:=SU (l:=r) (v:=v) (n:=n) (by simpa using h) (λi hi=>h1 (i+1) om) (λhl=>h2 (by simpa using hl));simp[fJ,e,ih]
def equalIn (l:List aA) (v:aA):Bool:=decide (0<=placeOf l v.aU)&&jY (ab l (placeOf l v.aU).toNat) v
def Gd (other:List aA) (v:aA):Bool:=!equalIn other v
def jz (l:List cE):Int:=l.foldl (λt s=>if t<s.time then s.time else t) 0
def Dd {l:List cE} {k:Nat} (h:k<l.length):jz (l.take (k+1))=if jz (l.take k)<(ab l k).time then(ab l k).time else jz (l.take k):=by
 unfold jz;rw[fe h,List.foldl_append];rfl
def jM (l:List cE):Bool:=decide (jz l<9999)
def og (site:Int) (l:List cE):cE:=if jM l then⟨jz l+1,site⟩ else⟨0,0⟩
def SV (l:List aw) (v:aw):(lM l v).length=l.length+1:=by
 induction l with
 |nil=>rfl
 |cons x r ih=>unfold lM;split<;>simp[ih]
def cn:az:=⟨0,0,0,0,0,⟨0,0⟩,0,false,[],0,0,[],[],[]⟩
def pS (s:Server) (key aj call:Int) (v:aA):Bool:=(v.key==key)&&(v.aj==aj)&&(v.call==call)&&(bM v.ar.site==bM s.site)
def kU (s:Server) (key aj call:Int):Option aA:=s.an.find? (pS s key aj call)
def nF (s:Server) (m:az) (st:cE):az:={cn with kind:=2,aT:=s.site,to:=m.aT,call:=m.call,key:=m.key,ar:=st}
def lS (s:Server) (m:az) (o:Option aA):az:={cn with kind:=4,aT:=s.site,to:=m.aT,call:=m.call,key:=m.key,ar:=m.ar,yes:=o.isSome,an:=o.toList}
def mF (s:Server) (m:az) (v:aA):az:={cn with kind:=6,aT:=s.site,to:=m.aT,key:=v.key,ar:=v.ar}
def mZ (s:Server) (m:az):az:={cn with kind:=8,aT:=s.site,to:=m.aT,key:=m.key,ar:=m.ar}
def nG (s:Server) (m:az):az:={cn with kind:=10,aT:=s.site,to:=m.aT,slot:=m.slot,bw:=m.bw}
def asks (q:Call):List az:=
 if q.kind=1 then[{cn with kind:=1,key:=ab q.keys 0,val:=q.val,aQ:=q.ctx}]
 else(q.keys.filter λk=>decide (cv q k<0)).map (λk=>{cn with kind:=3,key:=k})++q.aL.map λd=>{cn with kind:=3,key:=d.key,ar:=d.ar}
def dj:List Answer->Answer->List Answer
 |[],a=>[a]
 |e::r,a=>if a.key<e.key then a::e::r else e::dj r a
def lu (q:Call) (a:Answer) (time:Int):Call:=
 if a.aY.aU∈q.aL then
  let x:={q with au:=q.au.set (cv q a.key).toNat a,aL:=q.aL.filter λd=>decide (d≠a.aY.aU)}
  if x.aL=[] then{x with end_:=time} else x
 else q
def cX (m:az):Answer:=⟨m.key,m.yes,if m.yes then ab m.an 0 else sE⟩
def adB (l:List Int) (key:Int):
 Fn prog 321 [jt l,AV.int key] (AV.int (df (w9 key) l)):=by
 refine Fn.go 19 func321 ntmps321 (λW I a U=>?_);have hle:=U.eE (t:=0) rfl;refine aX λI a w U=>?_;refine St.lo (σ:=Nat) (run 2 4 (run 11 8 [])) ⟨λk=>[(8,AV.int k)],λk=>[],λk=>k<=l.length/\∀i,i<k->w9 key (ab l i)=false⟩ (λk=>l.length-k) 0 U ?aI ?bF;case aI=>exact⟨Nat.zero_le _,λi hi=>by omega⟩
 rintro k I a w ao U;obtain⟨hk,aM⟩:=ao;refine aB λI a w U=>?_;refine cz (λae=>?_) λae=>?_
 .refine pJ λI a w U=>?_;refine U.cd (λah=>?_) λah=>?_
  .rw[show(key==ab l k)=w9 key (ab l k) from Bool.beq_comm] at ah;refine c8 ?_;exact gx (nB ae aM ah).symm
  rw[show(key==ab l k)=w9 key (ab l k) from Bool.beq_comm] at ah;refine aF λI a w U=>?_;exact U.ag (k+1) (⟨by omega,λi h1=>by rcases Nat.lt_succ_iff_lt_or_eq.1 h1 with h|h;exact aM i h;rw[h];exact ah⟩)
 refine zt ?_;refine bf ?_;exact gx (mS om aM).symm
def SW (l:List Int) (key:Int):
 Fn prog 283 [jt l,AV.int key] (AV.bool (iE l key)):=by
 refine Fn.go 9 func283 ntmps283 (λW I a U=>?_);refine bk λI a w U=>?_;refine U.o (.cl (adB l key)) λU=>?_;refine c8 ?_;rfl
def SX (l:List Int) (key:Int):
 Fn prog 248 [jt l,AV.int key] (AV.bool (iE l key)):=by
 refine Fn.go 18 func248 ntmps248 (λW I a U=>?_);have hle:=U.eE (t:=0) rfl;refine aF λI a w U=>?_;refine St.lo (σ:=Nat) (run 14 4 []) ⟨λk=>[(5,AV.int k)],λk=>[],λk=>k<=l.length/\∀i,i<k->w9 key (ab l i)=false⟩ (λk=>l.length-k) 0 U ?aI ?bF;case aI=>exact⟨Nat.zero_le _,λi hi=>by omega⟩
 rintro k I a w ao U;obtain⟨hk,aM⟩:=ao;refine aX λI a w U=>?_;refine cz (λae=>?_) λae=>?_
 .refine iM λI a w U=>?_;refine U.cd (λah=>?_) λah=>?_
  .refine bf ?_;exact bB (FI (bh ae) ah).symm
  refine aR λI a w U=>?_;exact U.ag (k+1) (⟨by omega,λi h1=>by rcases Nat.lt_succ_iff_lt_or_eq.1 h1 with h|h;exact aM i h;rw[h];exact ah⟩)
 refine zt ?_;refine bf ?_;exact bB (by unfold iE hasB;rw[mS om aM];rfl)
def SY (x:Answer) (key:Int):
 Fn prog 322 [x.av,AV.ptr [AV.int key]] (AV.bool (vD key x)):=by
 refine Fn.go 8 func322 ntmps322 (λW I a U=>?_);refine jW λI a w U=>?_;refine U.rt ?_;rfl
def Ge (q:Call) (key:Int):
 Fn prog 249 [q.av,AV.int key] (AV.int (cv q key)):=by
 refine Fn.go 22 func249 ntmps249 (λW I a U=>?_);have lens:q.keys.length<=9223372036854775807/\q.au.length<=9223372036854775807/\q.aL.length<=9223372036854775807:=⟨U.ln 0 3,U.ln 0 11,U.ln 0 12⟩;refine aR λI a w U=>?_;refine St.lo (σ:=Nat) (run 18 4 []) ⟨λk=>[(5,AV.int k)],λk=>[],λk=>k<=q.au.length/\∀i,i<k->vD key (ab q.au i)=false⟩ (λk=>q.au.length-k) 0 U ?aI ?bF;case aI=>exact⟨Nat.zero_le _,λi hi=>by omega⟩
 rintro k I a w ao U;obtain⟨hk,aM⟩:=ao;refine cF λI a w U=>?_;refine cz (λae=>?_) λae=>?_
 .refine pJ λI a w U=>?_;refine U.cd (λah=>?_) λah=>?_
  .refine c8 ?_;exact gx (nB ae aM ah).symm
  refine aR λI a w U=>?_;exact U.ag (k+1) (⟨by omega,λi h1=>by rcases Nat.lt_succ_iff_lt_or_eq.1 h1 with h|h;exact aM i h;rw[h];exact ah⟩)
 refine zt ?_;refine bf ?_;exact gx (mS om aM).symm
def SZ (q:Call):(((q.kind==1)&&decide (0<(q.au.length:Int)+q.aL.length))||(!(q.kind==1)&&((q.val !=0)||!dw q.ar)))=!AN q:=by simp[AN]
def S0 (q:Call) (k:Nat):(decide (cv q (ab q.aL k).key<0)||!bQ (ab q.au (cv q (ab q.aL k).key).toNat).aY.ar (ab q.aL k).ar)=!xa q k:=by
 unfold xa;have e:decide (cv q (ab q.aL k).key<0)=!decide (0<=cv q (ab q.aL k).key):=by rw[Bool.eq_iff_iff];simp
 rw[e];simp
def adC (x:Answer) (h:x.yes=false):(du x.key&&(x.aY.key==0)&&(x.aY.val==0)&&(x.aY.aj==0)&&(x.aY.call==0)&&dw x.aY.ar&&((x.aY.aQ.length:Int)==0))=yH x:=by
 unfold yH;rw[h];obtain⟨k,y,⟨vk,⟨t,s⟩,vv,vc,vl,vd⟩⟩:=x;simp only[jY,sE,dw];rw[Bool.eq_iff_iff];simp;constructor
 .rintro⟨⟨⟨⟨⟨⟨h1,h2⟩,h3⟩,h4⟩,h5⟩,h6⟩,h7⟩;exact⟨h1,h2,h6,h3,h4,h5,h7⟩
 rintro⟨h1,h2,h6,h3,h4,h5,h7⟩;exact⟨⟨⟨⟨⟨⟨h1,h2⟩,h3⟩,h4⟩,h5⟩,h6⟩,h7⟩
def yI {l:List Answer} (h:∀a∈l,dL a=true) (k:Nat):∀a∈l.take k,dL a=true:=λa ha=>h a (List.mem_of_mem_take ha)
def yJ (v:aA) (h:v.aQ.length<=1048576):
 Fn prog 159 [v.av] (v.av):=by
 refine Fn.go 8 func159 ntmps159 (λW I a U=>?_);refine sr<|U.box rfl .tt λb1 I a w U=>U.alloc rfl bL ee λb2 I a w U=>?_;refine aG λI a w U=>?_;refine U.o (.cl (vu v.aQ h)) λU=>?_;refine aX λI a w U=>?_;refine U.ret rfl (.cons (.sx 1) aV.nil) ?_;rfl
def xd (l:List aA) (h:l.length<=1048576) (hd:∀v∈l,v.aQ.length<=1048576):
 kQ prog 130 [bU l] 54 7 (l.map aA.cells):=by
 refine kQ.intro 19 func130 rfl ntmps130 rfl aO (λW I a U=>?_);have U:=U.ik (sz:=7) 54;refine cF λI a w U=>?_;refine St.lo (σ:=Nat×Value) (3::(5::(run 10 8 []))) ⟨λ⟨k,v⟩=>[(8,AV.int k),(3,AV.val v)],λ⟨k,v⟩=>[Own.row v 54 7 ((l.take k).map aA.cells)],λ⟨k,v⟩=>k<=l.length⟩ (λ⟨k,v⟩=>l.length-k) (0,.slice none 0 0) U ?aI ?bF;case aI=>exact Nat.zero_le _
 rintro⟨k,v⟩ I a w ao U;have hk:k<=l.length:=ao;dsimp only at U;refine aB λI a w U=>?_;refine cz (λae=>?_) λae=>?_
 .refine aG λI a w U=>?_;refine U.alloc rfl bL ee λb5 I a w U=>?_;refine aB λI a w U=>?_;obtain⟨I,U⟩:=U.fb 1 5;refine aG λI a w U=>?_;refine U.o (.c1 (yJ (ab l k) (hd _ (bh ae)))) λU=>?_;refine U.o (.li [(ab l k).cells] mB (.u .nil)) λU=>?_;refine U.ap 0 λKQ a w U=>?_;rw[cJ,<-fe ae] at U;refine aR λI a w U=>?_;have U:=U.drop 1;exact U.ag (k+1,KQ) (ae)
 refine zt ?_;refine aF λI a w U=>?_;exact U.yb (r:=2) 0 rfl rfl rfl (by rw[List.take_of_length_le om])
def AP (q:Call):Prop:=q.keys.length<=1048576/\q.ctx.length<=1048576/\q.au.length<=1048576/\(∀y∈q.au,y.aY.aQ.length<=1048576)/\q.aL.length<=1048576
def Server.S1 (s:Server) (r:Value×Value×Value×Value×Value):List Own:=[Own.row r.1 97 2 (s.aD.map de.cells),Own.row r.2.1 54 7 (s.an.map aA.cells),Own.row r.2.2.1 54 7 (s.waits.map aA.cells),Own.row r.2.2.2.1 125 3 (s.aE.map aw.cells),Own.row r.2.2.2.2 125 3 (s.ba.map aw.cells)]
def KR {a:Bool} {key:Int} (h:(a&&du key)=true):0<=cV key/\cV key<3:=sj (by rw[Bool.and_eq_true] at h;exact h.2)
def Gf (l:List aA) (slot:Int) (hc:ct l=true):
 Fn prog 340 [bU l,AV.int slot] (AV.dG [bU (l.filter (fj slot)),bU (l.filter (λv=>!fj slot v))]):=by
 refine Fn.go 48 func340 ntmps340 (λW I a U=>?_);have hle:=U.eE (t:=0) rfl;have CN:=ga hc;have iv:=ob hc;refine aF λI a w U=>?_;refine U.l0 λb9 I a w U=>?_;refine aB λI a w U=>?_;refine U.l0 λm7 I a w U=>?_;refine aG λI a w U=>?_;refine U.o (.cl (wS ..)) λU=>?_;refine aB λI a w U=>?_;refine U.cd (λae=>?_) λae=>?_
 .exfalso;rw[hc] at ae;cases ae;skip
 refine aB λI a w U=>?_;refine St.lo (σ:=Nat×Value×Value) (run 3 6 (run 30 16 [])) ⟨λ⟨k,u,v⟩=>[(8,AV.int k),(6,AV.val u),(7,AV.val v)],λ⟨k,u,v⟩=>[Own.row u 54 7 (((l.take k).filter (fj slot)).map aA.cells),Own.row v 54 7 (((l.take k).filter (λv=>!fj slot v)).map aA.cells)],λ⟨k,u,v⟩=>k<=l.length⟩ (λ⟨k,u,v⟩=>l.length-k) (0,.slice (some ⟨b9,0,none⟩) 0 0,.slice (some ⟨m7,0,none⟩) 0 0) U ?aI ?bF;case aI=>exact Nat.zero_le _
 rintro⟨k,u,v⟩ I a w ao U;have hk:k<=l.length:=ao;have S2:=tX (fj slot) l k;have De:=tX (λv=>!fj slot v) l k;dsimp only at U;refine aX λI a w U=>?_;refine cz (λah=>?_) λah=>?_
 .refine bY λI a w U=>?_;refine U.o (.c1 (wT ..)) λU=>?_;refine aF λI a w U=>?_;refine U.cd (λaq=>?_) λaq=>?_
  .change fj slot (ab l k)=true at aq;refine bY λI a w U=>?_;refine U.o (bO (qB _ (by have:=iv _ (bh ah);omega)) (ax (.t rfl) aH)) λU=>?_;refine U.o (.li [(ab l k).cells] mB (.u .nil)) λU=>?_;refine U.ap 0 λCK a w U=>?_;rw[cJ,<-oI ah aq,show(l.take k).filter (λv=>!fj slot v)=(l.take (k+1)).filter (λv=>!fj slot v) from(oJ ah (by show(!fj slot _)=false;rw[aq];rfl)).symm] at U;refine aX λI a w U=>?_;exact U.ag (k+1,CK,v) (ah)
  change fj slot (ab l k)=false at aq;refine bY λI a w U=>?_;refine U.o (bO (qB _ (by have:=iv _ (bh ah);omega)) (ax (.t rfl) aH)) λU=>?_;refine U.o (.li [(ab l k).cells] mB (.u .nil)) λU=>?_;refine U.ap 1 λKS a w U=>?_;rw[cJ,<-oI (p:=(λv=>!fj slot v)) ah (by show(!fj slot _)=true;rw[aq];rfl),show(l.take k).filter (fj slot)=(l.take (k+1)).filter (fj slot) from(oJ ah aq).symm] at U;refine aX λI a w U=>?_;exact U.ag (k+1,u,KS) (ah)
 refine zt ?_;refine aX λI a w U=>?_;obtain⟨I,U⟩:=U.fr 0 4;obtain⟨I,U⟩:=U.fr 1 5;refine U.rt ?_;exact(by rw[List.take_of_length_le om];rfl)
def xe {l:List aw}:gz l=true↔l.length<=80/\(∀d∈l,kO d=true)/\l.Pairwise λa b=>eQ a b=true:=by
 unfold gz;rw[Bool.and_eq_true,decide_eq_true_eq,FO (less:=eQ) (λh1 h2=>Av h1 h2)]
def Df {l m:List aw} (h:gz l=true) (U:m.Sublist l):gz m=true:=by
 obtain⟨h1,h2,h3⟩:=xe.1 h;exact xe.2 ⟨Nat.le_trans U.length_le h1,λx hx=>h2 x (U.subset hx),h3.sublist U⟩
def KT:∀(n:Nat) (s:Server),(jl n s).site=s.site/\(jl n s).up=s.up/\(jl n s).aD=s.aD/\(jl n s).aE=s.aE/\(jl n s).ba=s.ba
 |0,s=>⟨rfl,rfl,rfl,rfl,rfl⟩
 |n+1,s=>by
  unfold jl;split
  .exact⟨rfl,rfl,rfl,rfl,rfl⟩
  obtain⟨a,b,d,e,f⟩:=KT n (mT s (dI s).toNat);exact⟨a,b,d,e,f⟩
def fK.KU {s:Server} (h:fK s) {v:aA} (hc:iO s.waits v=true) (hp:placeOf s.an v.aU<0):fK {s with waits:=fJ s.waits v}:=by
 obtain⟨h1,h2,h3⟩:=wY hc;refine⟨h.aD,h.an,FP h.waits h1 h2 h3,λx hx=>?_,h.ba⟩;rcases hC.1 hx with rfl|hx
 .exact hp
 exact h.apart x hx
def nH {m:az} (h:bK m=true):ct m.an=true/\ct m.waits=true/\gz m.aE=true/\bT m.aQ=true:=by
 simp only[bK,Bool.and_eq_true] at h;exact⟨h.1.1.2,h.1.2,h.2,h.1.1.1.1.1.2⟩
def Gg:∀{l:List aw} {d x:aw},x∈lM l d↔x=d\/x∈l
 |[],d,x=>by simp[lM]
 |e::r,d,x=>by
  unfold lM;split
  .simp
  rw[List.mem_cons,Gg,List.mem_cons];constructor
  .rintro(h|h|h)<;>simp[h]
  rintro(h|h|h)<;>simp[h]
def S3:∀{l:List aw} {d:aw},(l.Pairwise λa b=>eQ a b=true)->(∀x∈l,x≠d)->(lM l d).Pairwise λa b=>eQ a b=true
 |[],d,_,_=>by simp[lM]
 |e::r,d,h,hn=>by
  unfold lM;rw[List.pairwise_cons] at h;split
  .rename_i hl;rw[List.pairwise_cons];refine⟨λx hx=>?_,List.pairwise_cons.2 h⟩;rcases List.mem_cons.1 hx with rfl|hx
   .exact hl
   exact Av hl (h.1 x hx)
  rename_i hl;rw[List.pairwise_cons];refine⟨λx hx=>?_,S3 h.2 λx hx=>hn x (by simp[hx])⟩;rcases Gg.1 hx with rfl|hx
  .cases hd:eQ e x with
   |true=>rfl
   |false=>exact absurd (FK hd (by simpa using hl)) (hn e bn)
  exact h.1 x hx
def bJ.jl:∀(n:Nat) {s:Server},bJ s->bJ (jl n s)
 |0,_,h=>h
 |n+1,s,h=>by
  unfold Go.Proofs.YtldbakcpcfdlaaaGreat.jl;split
  .exact h
  exact bJ.jl n (h.yv om)
def bJ.gi {s:Server} (h:bJ s):bJ (FL s):=
 ⟨h.site,h.aD,h.an,h.waits,h.aE,Df h.ba List.filter_sublist,λe=>by show s.ba.filter _=[];rw[h.up e];rfl,h.aN,h.here,h.oK,h.oL,h.apart,h.lN⟩
def adD (s:Server):(ir s).site=s.site/\(ir s).up=s.up/\(ir s).aD=s.aD/\(ir s).aE=s.aE/\(ir s).ba=s.ba:=KT _ s
def xf (s:Server):(ef s).site=s.site/\(ef s).up=s.up/\(ef s).aD=s.aD/\(ef s).aE=s.aE:=by
 obtain⟨a,b,d,e,_⟩:=adD s;exact⟨a,b,d,e⟩
def bJ.eh {s:Server} (h:bJ s) (slot:Int):bJ (eh s slot):=by
 have ao:=h.ok.drop slot;refine⟨h.site,h.aD,ao.an,ao.waits,Df h.aE List.filter_sublist,h.ba,h.up,h.aN,λv hv=>h.here v (su hv),λv hv=>h.oK v (su hv),λv hv=>h.oL v (su hv),
  λv hv x hx=>h.apart v (su hv) x (su hx),λd hd=>?_⟩
 obtain⟨h1,h2⟩:=List.mem_filter.1 hd;obtain⟨x,hx,e⟩:=h.lN d h1;refine⟨x,List.mem_filter.2 ⟨hx,?_⟩,e⟩;subst e;exact h2
def S4 {s:Server} {slot:Int}:(∀v∈(Go.Proofs.YtldbakcpcfdlaaaGreat.eh s slot).an,cV v.key≠slot)/\(∀v∈(Go.Proofs.YtldbakcpcfdlaaaGreat.eh s slot).waits,cV v.key≠slot):=by
 constructor<;>intro v hv<;>have:=(List.mem_filter.1 hv).2<;>simpa[fj] using this
def yK {s:Server} {key:Int} (h:fE s key=true):du key=true/\cP s key=1:=by
 unfold fE at h;rw[Bool.and_eq_true] at h;exact⟨h.1,by simpa using h.2⟩
def Dg {l:List aw} (h:bT l=true):∀d∈l,kO d=true:=λd hd=>qN h hd
def bJ.wait {s:Server} (h:bJ s) {v:aA} (hc:iO s.waits v=true) (hp:placeOf s.an v.aU<0) (hf:bM v.ar.site≠bM s.site) (bj:cP s v.key≠0):bJ {s with waits:=fJ s.waits v}:=by
 have ao:=h.ok.KU hc hp;refine⟨h.site,h.aD,h.an,ao.waits,h.aE,h.ba,h.up,h.aN,h.here,λx hx=>?_,λx hx=>?_,λx hx=>pN (ao.apart x hx),h.lN⟩
 .rcases hC.1 hx with rfl|hx
  .exact bj
  exact h.oK x hx
 rcases hC.1 hx with rfl|hx
 .exact hf
 exact h.oL x hx
def KV {s:Server} {key aj call:Int} {v:aA} (h:kU s key aj call=some v):v∈s.an/\v.key=key/\v.aj=aj/\v.call=call/\bM v.ar.site=bM s.site:=by
 have h1:=List.mem_of_find?_eq_some h;have h2:=List.find?_some h;simp only[pS,Bool.and_eq_true,beq_iff_eq] at h2;exact⟨h1,h2.1.1.1,h2.1.1.2,h2.1.2,h2.2⟩
def ug (c:Call) (d:aw):Bool:=decide (0<=cv c d.key)&&nE (ab c.au (cv c d.key).toNat) d.ar
def xg {q:Call} {key:Int}:0<=cv q key↔∃a∈q.au,a.key=key:=by
 have:=CP (p:=vD key) (l:=q.au);unfold hasB at this;rw[decide_eq_true_eq] at this;unfold cv;rw[this];simp[vD]
def oW:∀{l:List Answer} {a x:Answer},x∈dj l a↔x=a\/x∈l
 |[],a,x=>by simp[dj]
 |e::r,a,x=>by
  unfold dj;split
  .simp
  rw[List.mem_cons,oW,List.mem_cons];constructor
  .rintro(h|h|h)<;>simp[h]
  rintro(h|h|h)<;>simp[h]
def yL:∀(l:List Answer) (a:Answer),(dj l a).length=l.length+1
 |[],a=>rfl
 |e::r,a=>by unfold dj;split<;>simp[yL r a]
def Dh {q:Call} {m:az} (hm:bK m=true) (hv:m.yes=true->m.an.length=1/\(ab m.an 0).key=m.key):dL (cX m)=true:=by
 unfold dL cX;dsimp only;cases hy:m.yes
 .simp[jY]
 obtain⟨h1,h2⟩:=hv hy;have:=fw (nH hm).1 _ (bh (l:=m.an) (k:=0) om);simp[this,h2]
def adE {l:List Call} {i:Nat} {x:Call} (h:i<l.length) (hx:x.aj=(ab l i).aj) (k:Nat) (y:Int):fM (l.set i x) k y=fM l k y:=by
 have e:((l.set i x).map Call.aj)=l.map Call.aj:=by
  rw[List.map_set];apply List.ext_getElem
  .simp
  intro n Di xP;by_cases e:i=n
  .subst e;rw[List.getElem_set_self,List.getElem_map,hx];simp[ab,h]
  rw[List.getElem_set_ne e]
 have e2:∀l:List Call,fM l k y=((((l.map Call.aj).take k).filter λd=>d==y).length:Nat):=λl=>by
  unfold fM;rw[<-List.map_take,List.filter_map,List.length_map];rfl
 rw[e2,e2,e]
def AQ (s:Server):(ef s).site=s.site:=(xf s).1
def S5 (l:List aA) (v:aA):(!dN v||decide (0<=placeOf l v.aU)||((l.length:Int)==80))=!(dN v&&decide (placeOf l v.aU<0)&&!decide (l.length=80)):=by
 have e:((l.length:Int)==80)=decide (l.length=80):=by rw[Bool.eq_iff_iff];simp;omega
 have e2:decide (0<=placeOf l v.aU)=!decide (placeOf l v.aU<0):=by rw[Bool.eq_iff_iff];simp
 rw[e,e2];simp
def S6 {l:List aA} (v:aA) (h:ct l=true):(dN v&&decide (placeOf l v.aU<0)&&!decide (l.length=80))=iO l v:=by
 have hl:=ga h;have e:(!decide (l.length=80))=decide (l.length<80):=by rw[Bool.eq_iff_iff];simp;omega
 unfold iO;rw[e]
def Gh (l:List aA) (slot:Int) (h:l.length<=1048576) (hd:∀v∈l,v.aQ.length<=1048576):
 Fn prog 325 [bU l,AV.int slot] (AV.dG [bU (l.filter (fj slot)),bU (l.filter (λv=>!fj slot v))]):=by
 refine Fn.go 34 func325 ntmps325 (λW I a U=>?_);have U:=U.ik (sz:=7) 54;have U:=U.ik (sz:=7) 54;refine jW λI a w U=>?_;refine St.lo (σ:=Nat×Value×Value) (run 2 6 (9::(run 20 12 []))) ⟨λ⟨k,u,v⟩=>[(12,AV.int k),(6,AV.val u),(7,AV.val v)],λ⟨k,u,v⟩=>[Own.row u 54 7 (((l.take k).filter (fj slot)).map aA.cells),Own.row v 54 7 (((l.take k).filter (λv=>!fj slot v)).map aA.cells)],λ⟨k,u,v⟩=>k<=l.length⟩ (λ⟨k,u,v⟩=>l.length-k) (0,.slice none 0 0,.slice none 0 0) U ?aI ?bF;case aI=>exact Nat.zero_le _
 rintro⟨k,u,v⟩ I a w ao U;have hk:k<=l.length:=ao;have S2:=tX (fj slot) l k;have De:=tX (λv=>!fj slot v) l k;dsimp only at U;refine aB λI a w U=>?_;refine cz (λae=>?_) λae=>?_
 .refine aG λI a w U=>?_;refine U.alloc rfl bL ee λb9 I a w U=>?_;refine aB λI a w U=>?_;obtain⟨I,U⟩:=U.fb 2 9;refine aG λI a w U=>?_;refine U.o (.c1 (J6 ..)) λU=>?_;refine aF λI a w U=>?_;refine U.cd (λah=>?_) λah=>?_
  .change(fj slot) (ab l k)=true at ah;refine aG λI a w U=>?_;refine U.o (.c1 (yJ _ (hd _ (bh ae)))) λU=>?_;refine U.o (.li [(ab l k).cells] mB (.u .nil)) λU=>?_;refine U.ap 0 λyp a w U=>?_;rw[cJ,<-oI (p:=(fj slot)) ae ah,show(l.take k).filter (λv=>!fj slot v)=(l.take (k+1)).filter (λv=>!fj slot v) from(oJ ae (by show(!_)=false;rw[ah];rfl)).symm] at U;refine aR λI a w U=>?_;have U:=U.drop 2;exact U.ag (k+1,yp,v) (ae)
  change(fj slot) (ab l k)=false at ah;refine aG λI a w U=>?_;refine U.o (.c1 (yJ _ (hd _ (bh ae)))) λU=>?_;refine U.o (.li [(ab l k).cells] mB (.u .nil)) λU=>?_;refine U.ap 1 λv30 a w U=>?_;rw[cJ,<-oI (p:=(λv=>!fj slot v)) ae (by show(!_)=true;rw[ah];rfl),show(l.take k).filter (fj slot)=(l.take (k+1)).filter (fj slot) from(oJ ae ah).symm] at U;refine aR λI a w U=>?_;have U:=U.drop 2;exact U.ag (k+1,u,v30) (ae)
 refine zt ?_;refine aX λI a w U=>?_;obtain⟨I,U⟩:=U.fr 0 4;obtain⟨I,U⟩:=U.fr 1 5;refine U.rt ?_;exact(by rw[List.take_of_length_le om];rfl)
def S7 (l:List aw) (slot:Int) (h:l.length<=1048576):
 Fn prog 326 [bE l,AV.int slot] (AV.dG [bE (l.filter (gY slot)),bE (l.filter (λd=>!gY slot d))]):=by
 refine Fn.go 32 func326 ntmps326 (λW I a U=>?_);have U:=U.ik (sz:=3) 125;have U:=U.ik (sz:=3) 125;refine jW λI a w U=>?_;refine St.lo (σ:=Nat×Value×Value) (run 2 6 (9::(run 18 12 []))) ⟨λ⟨k,u,v⟩=>[(12,AV.int k),(6,AV.val u),(7,AV.val v)],λ⟨k,u,v⟩=>[Own.row u 125 3 (((l.take k).filter (gY slot)).map aw.cells),Own.row v 125 3 (((l.take k).filter (λd=>!gY slot d)).map aw.cells)],λ⟨k,u,v⟩=>k<=l.length⟩ (λ⟨k,u,v⟩=>l.length-k) (0,.slice none 0 0,.slice none 0 0) U ?aI ?bF;case aI=>exact Nat.zero_le _
 rintro⟨k,u,v⟩ I a w ao U;have hk:k<=l.length:=ao;have S2:=tX (gY slot) l k;have De:=tX (λd=>!gY slot d) l k;dsimp only at U;refine aB λI a w U=>?_;refine cz (λae=>?_) λae=>?_
 .refine aG λI a w U=>?_;refine U.alloc rfl cW gX λb9 I a w U=>?_;refine aB λI a w U=>?_;obtain⟨I,U⟩:=U.fb 2 9;refine aG λI a w U=>?_;refine U.o (.c1 (J6 ..)) λU=>?_;refine aF λI a w U=>?_;refine U.cd (λah=>?_) λah=>?_
  .change(gY slot) (ab l k)=true at ah;refine aG λI a w U=>?_;refine U.o (.li [(ab l k).cells] jk (.u .nil)) λU=>?_;refine U.ap 0 λoh a w U=>?_;rw[cJ,<-oI (p:=(gY slot)) ae ah,show(l.take k).filter (λd=>!gY slot d)=(l.take (k+1)).filter (λd=>!gY slot d) from(oJ ae (by show(!_)=false;rw[ah];rfl)).symm] at U;refine aR λI a w U=>?_;have U:=U.drop 2;exact U.ag (k+1,oh,v) (ae)
  change(gY slot) (ab l k)=false at ah;refine aG λI a w U=>?_;refine U.o (.li [(ab l k).cells] jk (.u .nil)) λU=>?_;refine U.ap 1 λKW a w U=>?_;rw[cJ,<-oI (p:=(λd=>!gY slot d)) ae (by show(!_)=true;rw[ah];rfl),show(l.take k).filter (gY slot)=(l.take (k+1)).filter (gY slot) from(oJ ae ah).symm] at U;refine aR λI a w U=>?_;have U:=U.drop 2;exact U.ag (k+1,u,KW) (ae)
 refine zt ?_;refine aX λI a w U=>?_;obtain⟨I,U⟩:=U.fr 0 4;obtain⟨I,U⟩:=U.fr 1 5;refine U.rt ?_;exact(by rw[List.take_of_length_le om];rfl)
def S8 (s:Server) (slot:Int) (h1:ct s.an=true) (h2:ct s.waits=true) (ho:s.aE.length<=80):
 Fn prog 339 [s.av,AV.int slot] ((eh s slot).av):=by
 refine Fn.go 51 func339 ntmps339 (λW I a U=>?_);have lens:s.aD.length<=9223372036854775807/\s.an.length<=9223372036854775807/\s.waits.length<=9223372036854775807/\s.aE.length<=9223372036854775807/\s.ba.length<=9223372036854775807:=⟨U.ln 0 2,U.ln 0 3,U.ln 0 4,U.ln 0 5,U.ln 0 6⟩;refine sr<|U.box rfl .tt λb2 I a w U=>U.alloc rfl cA dS λb4 I a w U=>?_;refine bk λI a w U=>?_;refine U.o (.cl (Gf _ _ h1)) λU=>?_;refine mz λI a w U=>?_;refine U.o (.cl (Gf _ _ h2)) λU=>?_;refine cF λI a w U=>?_;refine U.l0 λb23 I a w U=>?_;refine aF λI a w U=>?_;refine St.lo (σ:=Nat×Value) (run 2 5 (run 24 24 [])) ⟨λ⟨k,v⟩=>[(6,AV.int k),(5,AV.val v)],λ⟨k,v⟩=>[Own.box b2 95 [AV.int s.site,AV.bool s.up,tE s.aD,bU (s.an.filter λv=>!fj slot v),bU (s.waits.filter λv=>!fj slot v),bE s.aE,bE s.ba],Own.box b4 95 [AV.val (.int .i64 0),AV.val (.bool false),AV.rows 2 [],AV.rows 7 [],AV.rows 7 [],AV.rows 3 [],AV.rows 3 []],Own.row v 125 3 (((s.aE.take k).filter (λd=>!gY slot d)).map aw.cells)],λ⟨k,v⟩=>k<=s.aE.length⟩ (λ⟨k,v⟩=>s.aE.length-k) (0,.slice (some ⟨b23,0,none⟩) 0 0) U ?aI ?bF;case aI=>exact Nat.zero_le _
 rintro⟨k,v⟩ I a w ao U;have hk:k<=s.aE.length:=ao;have lE:=tX (λd=>!gY slot d) s.aE k;dsimp only at U;refine cF λI a w U=>?_;refine cz (λae=>?_) λae=>?_
 .refine dZ λI a w U=>?_;refine U.o (.c1 (wT ..)) λU=>?_;refine aF λI a w U=>?_;refine U.cd (λah=>?_) λah=>?_
  .change(λd=>!gY slot d) (ab s.aE k)=true at ah;refine dZ λI a w U=>?_;refine U.o (.li [(ab s.aE k).cells] jk (.u .nil)) λU=>?_;refine U.ap 2 λKX a w U=>?_;rw[cJ,<-oI (p:=(λd=>!gY slot d)) ae ah] at U;refine aX λI a w U=>?_;exact U.ag (k+1,KX) (ae)
  change(λd=>!gY slot d) (ab s.aE k)=false at ah;refine aR λI a w U=>?_;rw[show(s.aE.take k).filter (λd=>!gY slot d)=(s.aE.take (k+1)).filter (λd=>!gY slot d) from(oJ ae ah).symm] at U;exact U.ag (k+1,v) (ae)
 refine zt ?_;refine U.m λU=>?_;obtain⟨I,U⟩:=U.fr 2 48;refine aX λI a w U=>?_;refine U.ret rfl (.cons (.sx 1) aV.nil) ?_;exact(by rw[show s.aE.take k=s.aE from List.take_of_length_le om];rfl)
def adG {s:Server} {v:aA} (hk:du v.key=true):(fE s v.key&&!hasB (λd=>!eG s d) v.aQ)=iC s v:=by
 have e:=ym (p:=λd=>!eG s d) (l:=v.aQ);simp only[Bool.not_not] at e;unfold fE iC yo;rw[hk,e];simp
def adH (s:Server) (d:aw):
 Fn prog 363 [d.av,AV.ptr s.cells] (AV.bool (!eG s d)):=by
 refine Fn.go 8 func363 ntmps363 (λW I a U=>?_);refine bx λI a w U=>?_;refine U.o (.c2 (RU ..)) λU=>?_;refine c8 ?_;rfl
def adI (b:Nat) (s:Server) (x:AV) (d:aw):
 jV prog 365 [d.av,AV.val (.pointer (some ⟨b,0,none⟩))] [Own.box b 95 [AV.int s.site,AV.bool s.up,tE s.aD,bU s.an,bU s.waits,bE s.aE,x]] [Own.box b 95 [AV.int s.site,AV.bool s.up,tE s.aD,bU s.an,bU s.waits,bE s.aE,x]] (AV.bool (!iq s d)):=by
 refine jV.intro 8 func365 rfl ntmps365 rfl aO (λW I a U=>?_);refine bx λI a w U=>?_;refine U.o (.c2 (acw s d x)) λU=>?_;refine aF λI a w U=>?_;refine U.dx () [0] rfl (.cons (.t rfl) .nil) trivial rfl rfl
def S9 {s:Server} (h:¬s.an.length<80):dI s<0:=by unfold dI;rw[if_neg h];decide
def adJ {s:Server} (h:s.an.length<80):dI s=df (iC s) s.waits:=by unfold dI;rw[if_pos h]
def adK {s:Server} (h:bJ s) {d:aw} (hd:d∈s.aE):du d.key=true:=by
 have:=(xe.1 h.aE).2.1 d hd;unfold kO at this;simp only[Bool.and_eq_true] at this;exact this.1
def KY (q:Call) (h:AP q):
 Fn prog 166 [q.av] (q.av):=by
 refine Fn.go 45 func166 ntmps166 (λW I a U=>?_);obtain⟨h1,h2,h4,h5,h3⟩:=h;refine sr<|U.box rfl .tt λb1 I a w U=>U.alloc rfl eJ im λb2 I a w U=>?_;refine zt ?_;refine U.l0 λb6 I a w U=>?_;refine aG λI a w U=>?_;refine U.ap 2 λv9 a w U=>?_;obtain⟨I,U⟩:=U.fr 2 9;refine aF λI a w U=>?_;refine U.l0 λmG I a w U=>?_;refine aG λI a w U=>?_;refine U.ap 3 λm8 a w U=>?_;obtain⟨I,U⟩:=U.fr 3 14;refine aF λI a w U=>?_;refine U.l0 λAR I a w U=>?_;refine aG λI a w U=>?_;refine U.ap 4 λss a w U=>?_;obtain⟨I,U⟩:=U.fr 4 19;refine aF λI a w U=>?_;refine U.l0 λDj I a w U=>?_;refine aF λI a w U=>?_;refine St.lo (σ:=Nat×Value) (run 3 3 (run 20 22 [])) ⟨λ⟨k,v⟩=>[(4,AV.int k),(3,AV.val v)],λ⟨k,v⟩=>[Own.box b1 45 q.cells,Own.box b2 45 [AV.val (.int .i64 0),AV.val (.int .i64 0),AV.val (.int .i64 0),AV.rows 1 [],AV.val (.int .i64 0),AV.rows 3 [],AV.val (.int .i64 0),AV.val (.int .i64 0),AV.val (.bool false),AV.val (.int .i64 0),AV.val (.int .i64 0),AV.rows 9 [],AV.rows 3 []],Own.gone,Own.gone,Own.gone,Own.row v 56 9 ((q.au.take k).map Answer.cells)],λ⟨k,v⟩=>k<=q.au.length⟩ (λ⟨k,v⟩=>q.au.length-k) (0,.slice (some ⟨Dj,0,none⟩) 0 0) U ?aI ?bF;case aI=>exact Nat.zero_le _
 rintro⟨k,v⟩ I a w ao U;have hk:k<=q.au.length:=ao;dsimp only at U;refine cF λI a w U=>?_;refine cz (λae=>?_) λae=>?_
 .refine bY λI a w U=>?_;refine U.alloc rfl fg pM λb5 I a w U=>?_;refine bk λI a w U=>?_;refine U.o (.c1 (qB _ (h5 _ (bh ae)))) λU=>U.o .fv λU=>U.rV 6 bL .tt .tt rfl rfl rfl λa w U=>?_;refine aG λI a w U=>?_;refine U.o (.li [(ab q.au k).cells] wO (.u .nil)) λU=>?_;refine U.ap 5 λGi a w U=>?_;rw[cJ,<-fe ae] at U;refine aX λI a w U=>?_;have U:=U.drop 6;exact U.ag (k+1,Gi) (ae)
 refine wp_exit<|cB<|cB<|fo<|bm<|wp_seq ?_;rw[List.take_of_length_le om] at U;obtain⟨I,U⟩:=U.fr 5 3;refine cF λI a w U=>?_;refine U.ret rfl (.cons (.sx 1) aV.nil) ?_;rfl
def yM (key:Int):az:={cn with kind:=3,key:=key}
def yN (d:aw):az:={cn with kind:=3,key:=d.key,ar:=d.ar}
def qP (q:Call) (k:Nat):List az:=((q.keys.take k).filter λk=>decide (cv q k<0)).map yM
def uh (q:Call) (k:Nat):List az:=qP q q.keys.length++(q.aL.take k).map yN
def Ta {q:Call} {k:Nat} (h:k<q.keys.length) (hg:cv q (ab q.keys k)<0):qP q k++[yM (ab q.keys k)]=qP q (k+1):=by
 unfold qP;rw[oI h (by simpa using hg),List.map_append];rfl
def Tb {q:Call} {k:Nat} (h:k<q.keys.length) (hg:¬cv q (ab q.keys k)<0):qP q k=qP q (k+1):=by
 unfold qP;rw[oJ h (by simpa using hg)]
def KZ (q:Call):∀k,k<=q.keys.length->(qP q k).length<=k
 |0,_=>by simp[qP]
 |k+1,h=>by
  have ih:=KZ q k om;by_cases hg:cv q (ab q.keys k)<0
  .rw[<-Ta om hg,List.length_append];show _+1<=_;omega
  rw[<-Tb om hg];omega
def adL {q:Call} {k:Nat} (h:k=q.keys.length):qP q k=uh q 0:=by subst h;simp[uh]
def adM {q:Call} {k:Nat} (h:k<q.aL.length):uh q k++[yN (ab q.aL k)]=uh q (k+1):=by
 unfold uh;rw[fe h,List.map_append,List.append_assoc];rfl
def Tc (q:Call) (k:Nat):(uh q k).length<=q.keys.length+q.aL.length:=by
 have:=KZ q _ (Nat.le_refl _);unfold uh;rw[List.length_append,List.length_map,List.length_take];omega
def K0 {q:Call} {k:Nat} (hk:¬q.kind=1) (h:q.aL.length<=k):uh q k=asks q:=by
 unfold asks uh qP;rw[if_neg hk,List.take_length,List.take_of_length_le h];rfl
def K1 {q:Call}:(asks q).length<=q.keys.length+q.aL.length+1:=by
 by_cases hk:q.kind=1
 .unfold asks;rw[if_pos hk];simp
 rw[<-K0 hk (Nat.le_refl _)];have:=Tc q q.aL.length;omega
structure oi (l:List Answer) (v:Answer) (k:Nat) (done:Bool) (out:List Answer):Prop where
 hk:k<=l.length
 eq:dj l v=if done then out++l.drop k else out++dj (l.drop k) v
 len:out.length<=k+done.toNat
def oi.zero (l:List Answer) (v:Answer):oi l v 0 false []:=⟨Nat.zero_le _,by simp,by simp⟩
section
variable {l:List Answer} {v:Answer} {k:Nat} {out:List Answer} {done:Bool}
def oi.before (hp:oi l v k false out) (h:k<l.length) (he:v.key<(ab l k).key):oi l v (k+1) true ((out++[v])++[ab l k]):=by
 refine⟨h,?_,by have:=hp.len;simp at this⊢;omega⟩;have:=hp.eq;rw[mN h] at this;simp only[dj,if_pos he] at this;rw[this];simp
def oi.step (hp:oi l v k done out) (h:k<l.length) (he:done=true\/¬v.key<(ab l k).key):oi l v (k+1) done (out++[ab l k]):=by
 refine⟨h,?_,by have:=hp.len;simp;omega⟩;have:=hp.eq;cases done
 .rw[mN h] at this;have he:¬v.key<(ab l k).key:=he.resolve_left bn;simp only[dj,if_neg he] at this;rw[this];simp
 simp only[if_true] at this⊢;rw[this,mN h];simp
def oi.vp (hp:oi l v k true out) (h:l.length<=k):out=dj l v:=by
 have:=hp.eq;rw[List.drop_eq_nil_of_le h] at this;simpa using this.symm
def oi.vq (hp:oi l v k false out) (h:l.length<=k):out++[v]=dj l v:=by
 have:=hp.eq;rw[List.drop_eq_nil_of_le h] at this;simpa[dj] using this.symm
end
def qQ (q:Call) (a:Answer) (k:Nat):List Answer:=if a.aY.aU∈q.aL.take k then q.au.set (cv q a.key).toNat a else q.au
def adN {q:Call} {a:Answer} {k:Nat} (hd:bT q.aL=true) (h:k<q.aL.length) (he:ab q.aL k=a.aY.aU):qQ q a k=q.au:=by
 unfold qQ;rw[if_neg];intro hm;obtain⟨i,hi,e⟩:=List.getElem_of_mem hm;have r7:i<k/\i<q.aL.length:=by simp at hi;omega
 rw[List.getElem_take] at e;have e2:ab q.aL i=a.aY.aU:=by rw[<-e];simp[ab,r7.2]
 have:=CJ hd r7.1 h;rw[e2,he] at this;omega
def Td:∀{l:List Answer} {a:Answer} {k:Nat},k<=l.length->(∀i,i<k->(ab l i).key<a.key)->(k<l.length->¬(ab l k).key<a.key)->(∀x∈l,x.key≠a.key)->l.take k++a::l.drop k=dj l a
 |[],a,k,h,_,_,_=>by obtain rfl:k=0:=by simpa using h
                     rfl
 |e::r,a,0,_,_,h2,h3=>by
  have h2:=h2 bn;have h3:=h3 e bn;have:a.key<e.key:=by have h4:¬e.key<a.key:=h2;omega
  unfold dj;rw[if_pos this];rfl
 |e::r,a,k+1,h,h1,h2,h3=>by
  have h0:e.key<a.key:=h1 0 om;unfold dj;rw[if_neg om];show e::(r.take k++a::r.drop k)=_;rw[Td (by simpa using h) (λi hi=>h1 (i+1) om) (λhl=>h2 (by simpa using hl)) λx hx=>h3 x (by simp[hx])]
def adO (m:az) (d:aw):
 Fn prog 346 [d.av,AV.ptr m.cells] (AV.bool (decide (d=⟨m.key,m.ar⟩))):=by
 refine Fn.go 11 func346 ntmps346 (λW I a U=>?_);refine g9 λI a w U=>?_;refine U.o (.bd gX (.k (.t aZ.nil))) λU=>?_;refine U.o (nr [_,_,_] [_,_,_] wQ rfl rfl .tt .tt) λU=>?_;refine bf ?_;exact congrArg AV.bool (CL d ⟨m.key,m.ar⟩)
def Te (x:Int):eF (x-10)=aJ x 10 11:=by
 unfold eF aJ;rw[Bool.eq_iff_iff];simp;omega
def jo (w:ai) (e:Ev):List az:=if e.kind=5\/e.gi=0 then w.al.take e.word.toNat++w.al.drop (e.word.toNat+1) else w.al
def adP (w:ai) (e:Ev):(if e.kind=5\/e.gi=0 then{w with al:=w.al.take e.word.toNat++w.al.drop (e.word.toNat+1)} else w)={w with al:=jo w e}:=by unfold jo;split<;>rfl
def Dk {s:Server} {slot:Int} {v:aA}:v∈(eh s slot).an↔v∈s.an/\cV v.key≠slot:=by
 show v∈s.an.filter (λv=>!fj slot v)↔_;rw[List.mem_filter];simp[fj]
def Dl {s:Server} {slot:Int} {v:aA}:v∈(eh s slot).waits↔v∈s.waits/\cV v.key≠slot:=by
 show v∈s.waits.filter (λv=>!fj slot v)↔_;rw[List.mem_filter];simp[fj]
def K2 {s:Server} {slot:Int} {d:aw}:d∈(eh s slot).aE↔d∈s.aE/\cV d.key≠slot:=by
 show d∈s.aE.filter (λd=>!gY slot d)↔_;rw[List.mem_filter];simp[gY]
def adQ (l:List Call) {a b:Nat} (h:a<=b) (x:Int):fM l a x<=fM l b x:=by
 unfold fM;have e:l.take a=(l.take b).take a:=by rw[List.take_take,Nat.min_eq_left h]
 have:((l.take a).filter λd=>d.aj==x).length<=((l.take b).filter λd=>d.aj==x).length:=by
  rw[e];exact((List.take_sublist a (l.take b)).filter _).length_le
 omega
def sH (s:Server):(ef s).aD=s.aD:=(xf s).2.2.1
def K3 {s:Server}:(∀v∈(ef s).an,v∈s.an\/v∈s.waits)/\∀v∈(ef s).waits,v∈s.waits:=by
 have:∀(n:Nat) (s:Server),(∀v∈(jl n s).an,v∈s.an\/v∈s.waits)/\∀v∈(jl n s).waits,v∈s.waits:=by
  intro n;induction n with
  |zero=>exactλs=>⟨λv hv=>.inl hv,λv hv=>hv⟩
  |succ n ih=>
   intro s
   unfold jl
   split
   .exact⟨λv hv=>.inl hv,λv hv=>hv⟩
   rename_i hp
   obtain⟨h1,h2⟩:=ih (mT s (dI s).toNat)
   have hl:=(wW (s:=s) om).1
   have hw:∀v∈(mT s (dI s).toNat).waits,v∈s.waits:=λv hv=>yx hv
   refine⟨λv hv=>?_,λv hv=>hw v (h2 v hv)⟩
   rcases h1 v hv with h|h
   .rcases hC.1 h with rfl|h
    .exact .inr (bh hl)
    exact .inl h
   exact .inr (hw v h)
 exact this s.waits.length s
def Tf:∀(n:Nat) (s:Server),s.waits.length<=n->dI (jl n s)<0
 |0,s,h=>Ki λ_ k hk=>by
  have hk:k<s.waits.length:=hk;omega
 |n+1,s,h=>by
  unfold jl;split
  .assumption
  rename_i hp;have hl:=(wW (s:=s) om).1;exact Tf n _ (by rw[FM hl];omega)
def Tg (n:Nat):decide (0<(n:Int))=!decide (n=0):=KP n
def AS (s:Server):(ef s).up=s.up:=(xf s).2.1
def Th:∀(n:Nat) (s:Server) {v:aA},v∈s.an->v∈(jl n s).an
 |0,_,_,h=>h
 |n+1,s,v,h=>by
  unfold jl;split
  .exact h
  exact Th n _ (hC.2 (.inr h))
def Ti {s:Server} {v:aA} (h:v∈s.an):v∈(ef s).an:=Th _ s h
end Go.Proofs.YtldbakcpcfdlaaaGreat
