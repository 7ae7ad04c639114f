/- Part 6: contracts of functions, plain facts. -/
import Derived.Test.YtjepcfpkclegdaaGreatP05
set_option linter.unusedVariables false
set_option linter.unusedSimpArgs false
set_option maxRecDepth 100000
set_option maxHeartbeats 4000000
namespace Go.Proofs.YtjepcfpkclegdaaGreat
open Go Go.RowKit
attribute [local irreducible] wpList Code.wp Ok
def pF (key:Int) (d:au):Bool:=d.key==key
def bx (l:List au) (key:Int):cw:=match l.find? (pF key) with
 |some d=>d.aq
 |none=>⟨0,0⟩
theorem MB {l:List au} {key:Int} {k:Nat} (hk:k<l.length) (h:∀i,i<k->pF key (ab l i)=false) (hp:pF key (ab l k)=true):bx l key=(ab l k).aq:=by
 have:l.find? (pF key)=some (ab l k):=by
  rw[List.find?_eq_some_iff_getElem]
  refine⟨hp,k,hk,by simp[ab,hk],λj hj=>?_⟩
  have lY:j<l.length:=by omega
  have:=h j hj
  simpa[ab,lY] using this
 unfold bx;rw[this]
def du (a b:cw):cw:=if bP a b then b else a
theorem Al (a b x:cw):bP x (du a b)=(bP x a||bP x b):=by
 obtain⟨t,s⟩:=a
 obtain⟨t',s'⟩:=b
 obtain⟨t2,s2⟩:=x
 unfold du
 rw[Bool.eq_iff_iff]
 by_cases h:bP ⟨t,s⟩ ⟨t',s'⟩=true
 ·rw[if_pos h]
  simp[bP] at h⊢;omega
 ·rw[if_neg h]
  simp[bP] at h⊢;omega
theorem lJ (e:au) (r:List au) (key:Int):bx (e::r) key=if e.key=key then e.aq else bx r key:=by
 unfold bx
 rw[List.find?_cons]
 by_cases h:e.key=key
 ·rw[if_pos h,show pF key e=true by simp[pF,h]]
 ·rw[if_neg h,show pF key e=false by simp[pF,h]]
theorem yf:∀{l:List au} {last key:Int},dI last l=true->key<=last->bx l key=⟨0,0⟩
 |[],_,_,_,_=>rfl
 |e::r,last,key,h,hk=>by
  have hh:=h
  simp only[dI,Bool.and_eq_true,aQ,decide_eq_true_eq] at h
  rw[lJ,if_neg (by omega)]
  exact yf h.2 (by omega)
def lK (x:Int) (d:Call):Bool:=d.an==x
def fF (l:List Call) (i:Nat) (x:Int):Int:=cM (lK x) (l.drop (i+1))
def mC (w:aE) (i:Nat):List au:=if 0<=fF w.calls i (ab w.calls i).an then(ab w.calls (i+1+(fF w.calls i (ab w.calls i).an).toNat)).ctx else ab w.seen (ab w.calls i).an.toNat
def equalIn (l:List aB) (v:aB):Bool:=decide (0<=placeOf l v.aT)&&pD (ab l (placeOf l v.aT).toNat) v
def tz (x y:dG):Bool:=(x.dH==1)&&(y.dH !=1)&&decide (y.bz<=x.bz)&&((y.dH !=2)||(y.bz==x.bz))
def dj (w:aE) (k:Int):Server:=ab w.ax k.toNat
def gQ (q:Call):Bool:=(q.end_==0)&&!q.over
def oh (tC:List au) (a:Answer):List au:=if bP a.be.aq (bx tC a.key) then[⟨a.key,bx tC a.key⟩] else[]
def l7 (q:Call) (time:Int):Call:=if q.aP=[] then{q with end_:=time} else q
def dN (m:aC):Answer:=⟨m.key,m.yes,if m.yes then ab m.ao 0 else rR⟩
def eF (ar more:List aC):List aC:=ar++more.take (60-ar.length)
def uX (an:Int) (q:Call):Bool:=(q.an==an)&&(q.end_==0)&&!q.over
def cq (calls:List Call) (an:Int):Int:=cM (uX an) calls
def uY (u v:aB):Bool:=!((u.key !=v.key)||([u.aq.time,u.aq.site] !=[v.aq.time,v.aq.site])||(u.val !=v.val)||(u.an !=v.an)||(u.call !=v.call)||((u.aO.length:Int) !=v.aO.length))
def CD (u v:aB) (i:Nat):Bool:=decide (ab u.aO i=ab v.aO i)
theorem MC {α:Type} [Inhabited α] {l m:List α} (h:l.length=m.length) (he:∀i,i<l.length->ab l i=ab m i):l=m:=by
 apply List.ext_getElem h
 intro i h1 h2
 have:=he i h1
 simpa[ab,h1,h2] using this
theorem Gg (u v:aB):pD u v=(uY u v&&cF u.aO.length (CD u v)):=by
 rw[Bool.eq_iff_iff,Bool.and_eq_true,gx]
 obtain⟨a1,⟨a2,a3⟩,a4,a5,a6,a7⟩:=u
 obtain⟨b1,⟨b2,b3⟩,b4,b5,b6,b7⟩:=v
 simp only[pD,uY,CD,decide_eq_true_eq]
 constructor
 ·intro h
  simp at h
  obtain⟨rfl,⟨rfl,rfl⟩,rfl,rfl,rfl,rfl⟩:=h
  simp
 ·rintro⟨h1,h2⟩
  simp at h1 h2
  have:a7=b7:=MC (by omega) h2
  simp[this];omega
theorem CE (d e:au):([d.key,d.aq.time,d.aq.site] !=[e.key,e.aq.time,e.aq.site])=!decide (d=e):=by
 obtain⟨k,⟨t,s⟩⟩:=d
 obtain⟨k',⟨t',s'⟩⟩:=e
 rw[Bool.eq_iff_iff];simp;omega
theorem Gh {u v:aB} (h:uY u v=true):u.aO.length=v.aO.length:=by
 simp only[uY,Bool.not_eq_true',Bool.or_eq_false_iff] at h
 have:=h.2
 simp at this;omega
theorem MD (u v:aB):
 Fn Tryz.prog 138 [u.av,v.av] (AV.bool (pD u v)):=by
 refine Fn.go 65 Tryz.func138 Tryz.ntmps138 (λW I a U=>?_)
 have lens:u.aO.length<=9223372036854775807/\v.aO.length<=9223372036854775807:=by
  obtain⟨cs,_,hc⟩:=U.env 0 _ rfl
  obtain⟨u1,_,h1,_⟩:=hc.get (i:=6) rfl
  obtain⟨Wg,_,j2⟩:=U.env 1 _ rfl
  obtain⟨u2,_,h2,_⟩:=j2.get (i:=6) rfl
  exact⟨zO h1,zO h2⟩
 refine wq λI a w U=>?_
 refine U.q .F (uG [_,_] [_,_] og rfl rfl .ag .ag) λU=>?_
 refine LY λI a w U=>?_
 refine U.cd (λae=>?_) λae=>?_
 ·replace ae:uY u v=false:=by unfold uY;rw[ae];rfl
  refine ai λI a w U=>?_
  refine U.rt ?_
  exact bG (by rw[Gg,ae];rfl)
 ·replace ae:uY u v=true:=by unfold uY;rw[ae];rfl
  refine aU λI a w U=>?_
  refine St.lo (σ:=Nat) (run 3 4 (run 13 52 [])) ⟨λk=>[(52,AV.int k)],λk=>[],λk=>k<=u.aO.length/\∀i,i<k->(CD u v) i=true⟩ (λk=>u.aO.length-k) 0 U ?aJ ?aK
  case aJ=>exact⟨Nat.zero_le _,λi hi=>by omega⟩
  case aK=>
   rintro k I a w aj U
   obtain⟨o1,aN⟩:=aj
   refine ai λI a w U=>?_
   refine cz (λah=>?_) λah=>?_
   ·refine bk λI a w U=>?_
    refine U.alloc rfl cH fL λb6 I a w U=>?_
    refine aA λI a w U=>?_
    obtain⟨I,U⟩:=U.fb 0 6
    refine U.dk ?_
    refine dq ?_
    refine .o ((by first|exact dS dJ cH .tt .tt (λ_=>by have:=Gh ae;omega)|exact fS dJ cH .tt .tt (λ_=>by have:=Gh ae;omega)|exact fZ dJ cH .tt .tt (λ_=>by have:=Gh ae;omega))) ?_
    refine bn ?_
    refine .o (uG [_,_,_] [_,_,_] uT rfl rfl .tt .tt)<|.nil ?_
    intro I a w U
    refine aY ?_
    refine U.cd (λal=>?_) λal=>?_
    ·rw[CE] at al;replace al:=nt al
     refine ai λI a w U=>?_
     refine U.rt ?_
     exact bG (by rw[Gg,eB (f:=CD u v) ah al];simp)
    ·rw[CE] at al;replace al:=nf al
     refine aA λI a w U=>?_
     have U:=U.drop 0
     exact U.ag (k+1) (⟨by omega,fg aN al⟩)
   ·refine zt ?_
    refine ai λI a w U=>?_
    refine U.rt ?_
    exact bG (by rw[Gg,ae,eP aN (by omega)];rfl)
theorem Wx (x:Answer):
 Fn Tryz.prog 199 [x.av] (AV.bool (wB x)):=by
 refine Fn.go 55 Tryz.func199 Tryz.ntmps199 (λW I a U=>?_)
 refine ck λI a w U=>?_
 refine cz (λae=>?_) λae=>?_
 ·refine aF λI a w U=>?_
  refine U.alloc rfl bA dE λb3 I a w U=>?_
  refine ai λI a w U=>?_
  obtain⟨I,U⟩:=U.fb 0 3
  refine aF λI a w U=>?_
  refine U.o (.c1 (uU ..)) λU=>?_
  refine UM λI a w U=>?_
  refine U.q .T (.bd jU bf.nil) λU=>?_
  refine U.q .T (mM [_,_] [_,_] og rfl rfl .ag .ag) λU=>?_
  refine ob λI a w U=>?_
  refine U.rt ?_
  exact bG (by rw[<-Wv x ae,<-CC])
 ·refine aF λI a w U=>?_
  refine U.o (.c1 (Ge ..)) λU=>?_
  refine mA λI a w U=>?_
  refine U.rt ?_
  exact bG (by unfold wB;rw[ae];rfl)
theorem ME {α:Type} [Inhabited α] {l:List α} {j k:Nat} (h:j<k):ab (l.take k) j=ab l j:=by
 unfold ab;simp[List.getD_eq_getElem?_getD,List.getElem?_take,h]
theorem Wy (n:Nat):decide ((n:Int)<=20)=decide (n<=20):=by rw[Bool.eq_iff_iff];simp;omega
theorem wD {α β:Type} [Inhabited β] {f:α->β->α} {z:α} {l:List β} {k:Nat} (h:k<l.length):(l.take (k+1)).foldl f z=f ((l.take k).foldl f z) (ab l k):=by
 rw[dW h,List.foldl_append];rfl
theorem pG {n:Int} (h:cL n=true):lB n=true:=by unfold lB;rw[h];rfl
theorem pH:cn []=true:=rfl
theorem wE:gi []=true:=rfl
theorem Am {s:cw} (h:db s=true):kx s=true:=by unfold kx;rw[h];simp
theorem An:kx ⟨0,0⟩=true:=rfl
theorem rS:bN []=true:=rfl
theorem qp {q:Call} (h:gQ q=true):q.end_=0/\q.over=false:=by
 unfold gQ at h;simpa using h
theorem qt {n:Int}:ff n=true↔0<=n/\n<=1:=by simp[ff,aQ]
theorem Wz {n:Int} (h:ff n=true):lB (10+n)=true:=by
 rw[qt] at h
 unfold lB aQ
 simp;right;omega
theorem tD {α:Type} [Inhabited α] {l:List α} {i:Nat} {a x:α} (h:x∈l.set i a):x=a\/∃k,k<l.length/\k≠i/\x=ab l k:=by
 obtain⟨k,hk,rfl⟩:=List.getElem_of_mem h
 rw[List.length_set] at hk
 by_cases e:i=k
 ·subst e;left;simp
 ·right;refine⟨k,hk,λe'=>e e'.symm,?_⟩
  rw[List.getElem_set_ne e];simp[ab,hk]
theorem MF {α:Type} [Inhabited α] {l:List α} {i k:Nat} {a:α} (h:k<l.length) (bj:k≠i):ab l k∈l.set i a:=by
 rw[List.mem_iff_getElem];refine⟨k,by simpa using h,?_⟩
 rw[List.getElem_set_ne (λe=>bj e.symm)];simp[ab,h]
theorem MG (p:au->Bool):∀{l:List au} {last:Int},dI last l=true->dI last (l.filter p)=true
 |[],_,_=>rfl
 |d::r,last,h=>by
  simp only[dI,Bool.and_eq_true] at h
  have ih:=MG p h.2
  have hd:=h.1.1
  simp only[aQ,Bool.and_eq_true,decide_eq_true_eq] at hd
  by_cases hp:p d=true
  ·rw[List.filter_cons_of_pos hp]
   simp only[dI,Bool.and_eq_true]
   exact⟨h.1,ih⟩
  ·rw[List.filter_cons_of_neg hp]
   cases hr:r.filter p with
   |nil=>rfl
   |cons e r'=>
    rw[hr] at ih
    simp only[dI,Bool.and_eq_true,aQ,decide_eq_true_eq] at ih⊢
    exact⟨⟨⟨by omega,ih.1.1.2⟩,ih.1.2⟩,ih.2⟩
theorem ld {α:Type} [Inhabited α] {l:List α} {i j:Nat} {x:α} (h:i<l.length):ab (l.set i x) j=if j=i then x else ab l j:=by
 unfold ab
 simp only[List.getD_eq_getElem?_getD]
 rw[List.getElem?_set]
 by_cases e:i=j
 ·subst e;simp[h]
 ·rw[if_neg e,if_neg λe'=>e e'.symm]
theorem qu {l:List Call} {an:Int} (h:0<=cq l an):(cq l an).toNat<l.length/\(ab l (cq l an).toNat).an=an/\gQ (ab l (cq l an).toNat)=true:=by
 unfold cq cM at*
 split at h
 ·rename_i k hk
  obtain⟨h1,h2,_⟩:=List.findIdx?_eq_some_iff_getElem.1 hk
  have e:l[k]=ab l k:=by simp[ab,h1]
  rw[e] at h2
  simp only[uX,Bool.and_eq_true,beq_iff_eq] at h2
  refine⟨by simpa using h1,by simpa using h2.1.1,?_⟩
  unfold gQ
  simp[h2.1.2,h2.2]
 ·omega
theorem WA {ar more:List aC} (h:ar.length<=60):(eF ar more).length<=60:=by
 unfold eF;rw[List.length_append,List.length_take];omega
theorem WB {ar more:List aC} (h:∀m∈ar,bO m=true) (h':∀m∈more,bO m=true):∀m∈eF ar more,bO m=true:=λm hm=>by
 unfold eF at hm
 rcases List.mem_append.1 hm with hm|hm
 ·exact h m hm
 ·exact h' m (List.mem_of_mem_take hm)
def rT (site k:Nat):List dG:=(List.range k).map λi=>if i%2=site%2 then⟨1,1⟩ else⟨0,0⟩
theorem MH {site k:Nat} (h:(k:Int)%2=(site:Int)%2):rT site k++[⟨1,1⟩]=rT site (k+1):=by
 unfold rT;rw[List.range_succ,List.map_append,List.map_singleton,if_pos (by omega)]
theorem MI {site k:Nat} (h:¬(k:Int)%2=(site:Int)%2):rT site k++[⟨0,0⟩]=rT site (k+1):=by
 unfold rT;rw[List.range_succ,List.map_append,List.map_singleton,if_neg (by omega)]
theorem CF (site k:Nat):(rT site k).length=k:=by simp[rT]
def Call.WC (q:Call) (g:Value):AV:=.agg [AV.int q.an,AV.int q.num,AV.int q.kind,jg q.keys,AV.int q.val,bm q.ctx,AV.int q.bD,AV.int q.end_,AV.bool q.over,AV.int q.aq.time,AV.int q.aq.site,.val g,bm q.aP]
theorem Gi (q:Call):
 Fn Tryz.prog 184 [q.av] (AV.bool (gQ q)):=by
 refine Fn.go 11 Tryz.func184 Tryz.ntmps184 (λW I a U=>?_)
 refine Cm λI a w U=>?_
 refine U.rt ?_
 exact bG (by unfold gQ;rfl)
def pI (q:Call) (a:Answer) (k:Nat):List au:=(q.aP.take k).filter λd=>decide (d≠a.be.aT)
theorem Gj {α:Type} [Inhabited α] {l:List α} {k:Nat} {x:α} (h:k<l.length):x∈l.take (k+1)↔x∈l.take k\/x=ab l k:=by rw[dW h];simp
theorem MJ (q:Call) (x:Answer) (k:Nat):(((((pI q x k).map au.cells).length:Int)==0)&&decide (0<(q.aP.length:Int)))=decide (pI q x k=[]/\q.aP≠[]):=by
 rw[List.length_map,Bool.eq_iff_iff]
 simp
 intro _
 exact⟨λh e=>by rw[e] at h;simp at h,λh=>by cases hq:q.aP with|nil=>exact absurd hq h|cons _ _=>simp⟩
theorem CG (l:List Call) (an:Int):
 Fn Tryz.prog 159 [bK l,AV.int an] (AV.int (cq l an)):=by
 refine Fn.go 36 Tryz.func159 Tryz.ntmps159 (λW I a U=>?_)
 have hle:=U.cW (t:=0) rfl
 refine aA λI a w U=>?_
 refine St.lo (σ:=Nat) (run 32 4 []) ⟨λk=>[(5,AV.int k)],λk=>[],λk=>k<=l.length/\∀i,i<k->uX an (ab l i)=false⟩ (λk=>l.length-k) 0 U ?aJ ?aK
 case aJ=>exact⟨Nat.zero_le _,λi hi=>by omega⟩
 case aK=>
  rintro k I a w aj U
  obtain⟨hk,aN⟩:=aj
  refine aU λI a w U=>?_
  refine cz (λae=>?_) λae=>?_
  ·refine Co λI a w U=>?_
   refine U.cd (λah=>?_) λah=>?_
   ·change uX an (ab l k)=true at ah
    refine aA λI a w U=>?_
    refine U.rt ?_
    exact fD (nA ae aN ah).symm
   ·change uX an (ab l k)=false at ah
    refine aI λI a w U=>?_
    exact U.ag (k+1) (⟨ae,λi h1=>by rcases Nat.lt_succ_iff_lt_or_eq.1 h1 with h|h;exact aN i h;rw[h];exact ah⟩)
  ·refine zt ?_
   refine ai λI a w U=>?_
   refine U.rt ?_
   exact fD (mR (by omega) aN).symm
def wF (ar more:List aC):Nat->List aC
 |0=>ar
 |k+1=>wF ar more k++[ab more k]
theorem MK (ar more:List aC):∀k,k<=more.length->wF ar more k=ar++more.take k
 |0,_=>by simp[wF]
 |k+1,h=>by
  show wF ar more k++_=_
  rw[MK ar more k (by omega),List.append_assoc,<-dW (by omega)]
theorem WD {ar more:List aC} {k:Nat} (hr:ar.length<=60) (hk:k<=more.length) (eD:k<=60-ar.length) (h:¬(k<more.length/\(ar++more.take k).length<60)):ar++more.take k=eF ar more:=by
 unfold eF
 have hl:(more.take k).length=k:=by simp;omega
 rw[List.length_append,hl] at h
 congr 1
 by_cases hm:k<more.length
 ·have:k=60-ar.length:=by omega
  rw[this]
 ·have:k=more.length:=by omega
  rw[this,List.take_length,List.take_of_length_le (by omega)]
theorem ML (w:aE) (e:Ev):(!aQ e.an 0 1||decide (0<=cq w.calls e.an))=!(ff e.an&&decide (cq w.calls e.an<0)):=by
 have h:decide (0<=cq w.calls e.an)=!decide (cq w.calls e.an<0):=by rw[Bool.eq_iff_iff];simp
 rw[h];unfold ff;simp
theorem WE (c0:Call) (an:Int):
 Fn Tryz.prog 183 [c0.av,AV.ptr [AV.int an]] (AV.bool (uX an c0)):=by
 refine Fn.go 12 Tryz.func183 Tryz.ntmps183 (λW I a U=>?_)
 refine lE λI a w U=>?_
 refine U.q .T (.cl (Gi c0)) λU=>?_
 refine aA λI a w U=>?_
 refine U.rt ?_
 exact bG (by unfold uX gQ;rw[Bool.and_assoc])
theorem WG {ar more:List aC} {k:Nat} (hk:k<more.length) (h:(eF ar (more.take k)).length<60):eF ar (more.take k)++[ab more k]=eF ar (more.take (k+1)):=by
 unfold eF at h⊢
 rw[List.length_append,List.length_take,List.length_take] at h
 rw[List.take_of_length_le (l:=more.take k) (by rw[List.length_take];omega),List.take_of_length_le (l:=more.take (k+1)) (by rw[List.length_take];omega),dW hk,List.append_assoc]
theorem WH {ar more:List aC} {k:Nat} (hr:ar.length<=60) (hk:k<more.length) (h:¬(eF ar (more.take k)).length<60):eF ar (more.take k)=eF ar (more.take (k+1)):=by
 unfold eF at h⊢
 rw[List.length_append,List.length_take,List.length_take] at h
 rw[List.take_take,List.take_take,Nat.min_eq_left (by omega),Nat.min_eq_left (by omega)]
theorem WI (ar:List aC):eF ar []=ar:=by simp[eF]
theorem WJ (ar more:List aC) (h:ar.length<=60):(eF ar more).length<=60:=by
 unfold eF;rw[List.length_append,List.length_take];omega
theorem MM (w:aE) (e:Ev):(!ff e.an||decide (0<=cq w.calls e.an))=!(ff e.an&&decide (cq w.calls e.an<0)):=by
 have h:decide (0<=cq w.calls e.an)=!decide (cq w.calls e.an<0):=by rw[Bool.eq_iff_iff];simp
 rw[h];simp
def gA (x:Int):Prop:=-4611686018427387904<=x/\x<=4611686018427387904
def Ev.yg (e:Ev):Prop:=∀x∈e.ints,gA x
structure dR where
 w:aE
 list:List Ev
 lv:Value
theorem ki {a b c d e f g h i j k:Int} (h1:gA a:=by unfold gA;omega) (h2:gA b:=by unfold gA;omega) (h3:gA c:=by unfold gA;omega) (h4:gA d:=by unfold gA;omega) (h5:gA e:=by unfold gA;omega) (h6:gA f:=by unfold gA;omega)
 (h7:gA g:=by unfold gA;omega) (h8:gA h:=by unfold gA;omega) (h9:gA i:=by unfold gA;omega) (CH:gA j:=by unfold gA;omega) (BS:gA k:=by unfold gA;omega):Ev.yg ⟨a,b,c,d,e,f,g,h,i,j,k⟩:=by
 intro x hx
 unfold gA at*
 simp only[Ev.ints,List.mem_cons,List.not_mem_nil,or_false] at hx
 rcases hx with rfl|rfl|rfl|rfl|rfl|rfl|rfl|rfl|rfl|rfl|rfl<;>omega
theorem WK {x i:Int} (h:gA x):gA (ab [0,2,x] i.toNat):=by
 unfold gA at*
 have:∀k:Nat,ab [0,2,x] k=0\/ab [0,2,x] k=2\/ab [0,2,x] k=x:=λk=>by
  match k with
  |0=>exact .inl rfl
  |1=>exact .inr (.inl rfl)
  |2=>exact .inr (.inr rfl)
  |k+3=>exact .inl rfl
 rcases this i.toNat with h|h|h<;>omega
theorem WL {bs:List UInt8} {n:Int} (h:(decide (n<1)||((bs.length:Int)==0))=false):¬(n<1\/bs.length=0):=by
 simp only[Bool.or_eq_false_iff,decide_eq_false_iff_not,beq_eq_false_iff_ne,ne_eq] at h;omega
theorem CI {x:Int} (h1:0<=x) (h2:x<4611686018427387904):gA x:=by unfold gA;omega
def MN:Ev:=⟨0,0,0,0,0,0,0,0,0,0,0⟩
def bW (i:Nat):Nat:=if i%2=0 then i+1 else i-1
theorem oi {i:Nat} (h:i<4):bW i<4:=by unfold bW;split<;>omega
theorem nB (i:Nat):bW i/2=i/2:=by unfold bW;split<;>omega
theorem Gk (i:Nat):bW i≠i:=by unfold bW;split<;>omega
theorem j8 (i:Nat):bW (bW i)=i:=by unfold bW;split<;>split<;>omega
theorem WM {i j:Nat} (h:j/2=i/2):j=i\/j=bW i:=by unfold bW;split<;>omega
def qv (a b:List au):Prop:=∀key,bP (bx b key) (bx a key)=false
def dO (w:aE) (i:Nat) (s:Server):aE:={w with ax:=w.ax.set i s}
theorem Gl (w:aE) (i:Nat) (s t:Server):dO (dO w i s) i t=dO w i t:=by unfold dO;simp[List.set_set]
theorem uZ (x:cw):bP x x=false:=by simp[bP]
theorem yh (a b:cw):bP (du a b) b=false:=by
 unfold du;split
 ·exact uZ b
 ·rename_i h;simpa using h
theorem CJ {l:List Call} {i:Nat} {x:Int} (h:0<=fF l i x):i+1+(fF l i x).toNat<l.length/\(ab l (i+1+(fF l i x).toNat)).an=x:=by
 unfold fF cM at*
 split at h
 ·rename_i k hk
  obtain⟨h1,h2,_⟩:=List.findIdx?_eq_some_iff_getElem.1 hk
  rw[List.length_drop] at h1
  rw[List.getElem_drop] at h2
  refine⟨by rw[Int.toNat_natCast];omega,?_⟩
  have e:l[i+1+k]=ab l (i+1+k):=by simp[ab,show i+1+k<l.length by omega]
  rw[e] at h2
  rw[Int.toNat_natCast]
  simpa[lK] using h2
 ·omega
theorem Gm {l:List Call} {i:Nat} {x:Int} (h:∀j,i<j->j<l.length->(ab l j).an≠x):fF l i x<0:=by
 rcases Int.lt_or_le (fF l i x) 0 with h0|h0
 ·exact h0
 ·obtain⟨h1,h2⟩:=CJ h0
  exact absurd h2 (h _ (by omega) h1)
theorem MO {α:Type} [Inhabited α] {l m:List α} {i:Nat} (h:i<l.length):ab (l++m) i=ab l i:=by
 unfold ab;simp[List.getD_eq_getElem?_getD,List.getElem?_append_left h]
theorem WN {α:Type} [Inhabited α] {p:α->Bool} {l:List α} {k:Nat} (hk:k<l.length) (hp:p (ab l k)=true):cM p l<=k:=by
 unfold cM
 split
 ·rename_i m hm
  obtain⟨h1,h2,h3⟩:=List.findIdx?_eq_some_iff_getElem.1 hm
  rcases Nat.lt_or_ge k m with bw|n6
  ·have:=h3 k bw
   rw[show l[k]=ab l k by simp[ab,hk]] at this
   exact absurd hp this
  ·omega
 ·omega
def u0 (m:aC):Prop:=(m.kind=3\/m.kind=4\/m.kind=9\/m.kind=10)/\m.ao=[]/\m.waits=[]/\m.aD=[]/\m.yes=false
def lf (l:List Ev):List Ev:=l.filter λe=>decide (e.kind≠2)
theorem WO {l:List Ev} {k:Nat} (h:k<l.length) (hk:¬(ab l k).kind=2):(lf (l.take k)).map Ev.cells++[(ab l k).cells]=(lf (l.take (k+1))).map Ev.cells:=by
 unfold lf;rw[dW h,List.filter_append,List.map_append]
 simp[hk]
theorem WQ {l:List Ev} {k:Nat} (h:k<l.length) (hk:(ab l k).kind=2):lf (l.take k)=lf (l.take (k+1)):=by
 unfold lf;rw[dW h,List.filter_append]
 simp[hk]
theorem WR (l:List Ev) (k:Nat):(lf (l.take k)).length<=k:=by
 unfold lf
 exact Nat.le_trans (List.length_filter_le _ _) (by rw[List.length_take];omega)
end Go.Proofs.YtjepcfpkclegdaaGreat
