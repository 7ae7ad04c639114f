/- Part 13: contracts of functions, plain facts. -/
import Derived.Test.YtdanidpleofjgaaGreatP09
set_option linter.all false
set_option maxRecDepth 100000
set_option maxHeartbeats 4000000
namespace Go.Proofs.YtdanidpleofjgaaGreat
open Go Go.RowKit Tryz
attribute [local irreducible] wpList Code.wp Ok
def xm (s:cx):
 Fn prog 172 [s.av] (AV.bool (dS s)):=by
 refine Fn.go 6 func172 ntmps172 (λW I a U=>?_);refine bm λI a w U=>?_;refine U.o (.bd ke bc.nil) λU=>?_;refine U.o (nj [_,_] [_,_] nU rfl rfl .tt .tt) λU=>?_;refine bh ?_;exact bP (by simp[dS])
def En (s t:cx):
 Fn prog 34 [s.av,t.av] (AV.bool (bV s t)):=by
 refine Fn.go 24 func34 ntmps34 (λW I a U=>?_);refine Bp λI a w U=>?_;refine U.rt ?_;rfl
def Eo (a b:au):
 Fn prog 123 [a.av,b.av] (AV.bool (eD a b)):=by
 refine Fn.go 24 func123 ntmps123 (λW I a U=>?_);refine Oy λI a w U=>?_;refine U.q .T2 (.cl (En ..)) λU=>?_;refine tJ ?_;rfl
def ZX (n:Int):fF (n-10)=aH n 10 11:=by
 simp only[fF,aH];rw[Bool.eq_iff_iff];simp;omega
def II (l:List au) (k:Nat):(!c7 (ab l k).key||!di (ab l k).aq||(decide (0<(k:Int))&&!eD (ab l ((k:Int)-1).toNat) (ab l k)))=!fl ka eD l k:=by
 rw[<-uW];simp[ka]
def PQ (l:List au) (k:Nat):(!c7 (ab l k).key||!di (ab l k).aq||(decide (0<(k:Int))&&(decide ((ab l k).key<(ab l ((k:Int)-1).toNat).key)||((ab l ((k:Int)-1).toNat).key==(ab l k).key&&!bV (ab l ((k:Int)-1).toNat).aq (ab l k).aq))))=!fl ka eD l k:=by
 rw[<-II];congr 2;generalize ab l ((k:Int)-1).toNat=p;generalize ab l k=q;simp only[eD];rcases Int.lt_trichotomy p.key q.key with h|h|h
 .have h1:¬q.key<p.key:=by omega
  have h2:(p.key==q.key)=false:=by simp;omega
  simp[h,h1,h2]
 .simp[h]
 have h1:¬p.key<q.key:=by omega
 have h2:(p.key==q.key)=false:=by simp;omega
 simp[h,h1,h2]
def vr (l:List aE):
 Fn prog 91 [cn l] (AV.bool (cg l)):=by
 refine Fn.go 36 func91 ntmps91 (λW I a U=>?_);have hle:=U.eC (t:=0) rfl;refine aZ λI a w U=>?_;refine cz (λae=>?_) λae=>?_
 .refine bh ?_;exact bP (by simp[cg];omega)
 refine aB λI a w U=>?_;refine St.lo (σ:=Nat) (run 2 2 (run 29 7 [])) ⟨λk=>[(3,AV.int k)],λk=>[],λk=>k<=l.length/\∀i,i<k->(fl dL fG l) i=true⟩ (λk=>l.length-k) 0 U ?aJ ?bF;case aJ=>exact⟨by simp,λi hi=>by omega⟩
 rintro k I a w an U;obtain⟨hk,aT⟩:=an;refine aZ λI a w U=>?_;refine cz (λah=>?_) λah=>?_
 .refine zt ?_;refine U.dk ?_;refine ef ?_;refine .o (.c1 (If ..)) ?_;refine rf ?_;refine .q .T2 (.cl (O7 ..)) ?_;refine dD ?_;refine .nil ?_;intro I a w U;refine bj ?_;refine U.cd (λar=>?_) λar=>?_
  .rw[uW] at ar;replace ar:=nt ar;refine bh ?_;exact bP (by unfold cg;rw[fY (f:=(fl dL fG l)) ah ar];simp)
  rw[uW] at ar;replace ar:=nf ar;refine aR λI a w U=>?_;exact U.ag (k+1) (⟨by omega,gI aT ar⟩)
 refine zt ?_;refine bh ?_;exact bP (by unfold cg;rw[fP aT om,Bool.and_true];simp;omega)
def IJ (l:List au):
 Fn prog 92 [bE l] (AV.bool (fZ l)):=by
 refine Fn.go 66 func92 ntmps92 (λW I a U=>?_);have hle:=U.eC (t:=0) rfl;refine aZ λI a w U=>?_;refine cz (λae=>?_) λae=>?_
 .refine bh ?_;exact bP (by simp[fZ];omega)
 refine aB λI a w U=>?_;refine St.lo (σ:=Nat) (run 3 2 (run 58 8 [])) ⟨λk=>[(3,AV.int k)],λk=>[],λk=>k<=l.length/\∀i,i<k->(fl ka eD l) i=true⟩ (λk=>l.length-k) 0 U ?aJ ?bF;case aJ=>exact⟨by simp,λi hi=>by omega⟩
 rintro k I a w an U;obtain⟨hk,aT⟩:=an;refine aZ λI a w U=>?_;refine cz (λah=>?_) λah=>?_
 .refine bB λI a w U=>?_;refine U.alloc rfl cV gK λb4 I a w U=>?_;refine aB λI a w U=>?_;obtain⟨I,U⟩:=U.fb 0 4;refine U.dk ?_;refine cB ?_;refine .o (.c1 (vf ..)) ?_;refine ef ?_;refine .q .F (.cl (w5 ..)) ?_;refine nT ?_;refine nT ?_;refine cB ?_;refine .q .T2 (.cl (yS ..)) ?_;refine gF ?_;refine .nil ?_;intro I a w U;refine bj ?_;refine U.cd (λar=>?_) λar=>?_
  .rw[PQ] at ar;replace ar:=nt ar;refine bh ?_;exact bP (by unfold fZ;rw[fY (f:=(fl ka eD l)) ah ar];simp)
  rw[PQ] at ar;replace ar:=nf ar;refine aR λI a w U=>?_;have U:=U.drop 0;exact U.ag (k+1) (⟨by omega,gI aT ar⟩)
 refine zt ?_;refine bh ?_;exact bP (by unfold fZ;rw[fP aT om,Bool.and_true];simp;omega)
def ZY {α:Type} (p:α->Bool) (l:List α):-1<=df p l:=by unfold df;split<;>omega
def ZZ (d:au) (v:aE):([v.key,v.aq.time,v.aq.site]==[d.key,d.aq.time,d.aq.site])=lY d v:=by
 obtain⟨k,⟨t,s⟩⟩:=d;obtain⟨vk,⟨vt,vs⟩,_,_,_,_⟩:=v;rw[Bool.eq_iff_iff];simp[lY,aE.aU,Bool.and_eq_true]
def cM (s:Server) (key:Int):Int:=(ab s.aw (cL key).toNat).bD
def rn (x:cY):Bool:=aH x.ba 0 9999&&aH x.bD 0 2&&!((x.bD !=0)&&(x.ba==0))
def tZ (s:Server):Bool:=cr s.site&&decide (s.aw.length=3)&&cg s.ai&&cg s.waits&&fZ s.aD&&fZ s.aV&&!(!s.up&&decide (0<s.aV.length))
def sR (s:Server) (i:Nat):Bool:=rn (ab s.aw i)
def ua (s:Server) (i:Nat):Bool:=cM s (ab s.ai i).key !=0
def ub (s:Server) (v:aE):Bool:=(cM s v.key !=0)&&(bM v.aq.site !=bM s.site)&&decide (placeOf s.ai v.aU<0)
def sS (s:Server) (i:Nat):Bool:=ub s (ab s.waits i)
def Ep (s:Server):(!cr s.site||((s.aw.length:Int) !=3)||!cg s.ai||!cg s.waits||!fZ s.aD||!fZ s.aV||(!s.up&&decide (0<(s.aV.length:Int))))=!tZ s:=by
 have e:((s.aw.length:Int) !=3)=!decide (s.aw.length=3):=by rw[Bool.eq_iff_iff];simp;omega
 have e2:decide (0<(s.aV.length:Int))=decide (0<s.aV.length):=by rw[Bool.eq_iff_iff];simp
 rw[e,e2];simp[tZ]
def IK (x:cY):(!aH x.ba 0 9999||!aH x.bD 0 2||((x.bD !=0)&&(x.ba==0)))=!rn x:=by simp[rn]
def PR (s:Server) (i:Nat):(cM s (ab s.ai i).key==0)=!ua s i:=by simp[ua,bne]
def PS (s:Server) (v:aE):((cM s v.key==0)||!(bM v.aq.site !=bM s.site)||decide (0<=placeOf s.ai v.aU))=!ub s v:=by
 have e:decide (0<=placeOf s.ai v.aU)=!decide (placeOf s.ai v.aU<0):=by rw[Bool.eq_iff_iff];simp
 rw[e];simp[ub,bne]
def rq {v:aE} (h:dL v=true):c7 v.key=true:=by
 simp only[dL,Bool.and_eq_true] at h;exact h.1.1.1.1.1.1
def Er {s:Server} (h:tZ s=true):s.aw.length=3/\cg s.ai=true/\cg s.waits=true/\fZ s.aD=true/\fZ s.aV=true/\cr s.site=true:=by
 simp only[tZ,Bool.and_eq_true,decide_eq_true_eq] at h;exact⟨h.1.1.1.1.1.2,h.1.1.1.1.2,h.1.1.1.2,h.1.1.2,h.1.2,h.1.1.1.1.1.1⟩
def rr {n:Int} (h:c7 n=true):0<=cL n/\cL n<3:=by
 unfold cL;simp only[h,if_true];simp[c7,aH] at h;omega
def PT {a b:cx} (h:bV a b=false) (h':bV b a=false):a=b:=by
 obtain⟨t,s⟩:=a;obtain⟨t',s'⟩:=b;simp[bV] at h h';simp;omega
def Es {a b:cx} (h:bV a b=true):bV b a=false:=by
 obtain⟨t,s⟩:=a;obtain⟨t',s'⟩:=b;simp[bV] at h⊢;omega
def PU (e d:au) (h:e.key=d.key):(if bV d.aq e.aq then e else d)=(if bV e.aq d.aq then d else e):=by
 cases h1:bV d.aq e.aq
 .cases h2:bV e.aq d.aq
  .have:=PT h1 h2;obtain⟨k,s⟩:=e;obtain⟨k',s'⟩:=d;simp at this h⊢;exact⟨h.symm,this⟩
  simp
 rw[Es h1];simp
def PV:∀(l:List au) (last:Int),eb last l=true->last<=5->(l.length:Int)<=5-last
 |[],last,_,h=>by simp;omega
 |d::r,last,h,hl=>by
  simp only[eb,Bool.and_eq_true,aH,decide_eq_true_eq] at h;have:=PV r d.key h.2 om;simp;omega
def iE {l:List au} (h:bU l=true):l.length<=6:=by
 have:=PV l (-1) h om;omega
def vu (l:List Int) (k:Nat):Int:=if k=0 then-1 else ab l (k-1)
def Z0 (l:List Int) (k:Nat):vu l (k+1)=ab l k:=by simp[vu]
def IL {n:Int}:c7 n=true↔0<=n/\n<=5:=by simp[c7,aH]
def PW {l:List Int} {k:Nat} (h:∀i,i<k->fl c7 mR l i=true):-1<=vu l k/\vu l k<=5:=by
 unfold vu;split
 .omega
 rename_i hk;have:=h (k-1) om;unfold fl at this;rw[Bool.and_eq_true,IL] at this;omega
def PX {l:List Int} {k:Nat} (h:∀i,i<k->fl c7 mR l i=true):aH (ab l k) (vu l k+1) 5=fl c7 mR l k:=by
 have:=PW h;unfold fl vu at*;by_cases hk:k=0
 .subst hk;simp[c7,aH]
 simp only[hk,if_false] at this⊢;rw[Bool.eq_iff_iff];simp[c7,aH,mR];omega
def ru (c:Call) (time:Int):Bool:=!(!aH c.ao 0 1||!aH c.num 1 99||!aH c.kind 1 2||!w7 c||!aH c.val 0 9999||!bU c.ctx||!bU c.aL||!aH c.bH 1 time)
def Et (c:Call) (time:Int):Bool:=if c.end_=0 then dS c.aq else !c.over&&aH c.end_ (c.bH+1) time&&((c.aL.length:Int)==0)&&(((c.kind==1)&&di c.aq)||((c.kind==2)&&((c.aC.length:Int)==c.keys.length)))
def IM (n:Nat):decide (0<(n:Int))=!decide (n=0):=by
 rw[Bool.eq_iff_iff];simp;omega
def PY (n m:Nat):decide (0<(n:Int)+m)=!(decide (n=0)&&decide (m=0)):=by
 rw[Bool.eq_iff_iff];simp;omega
def Z1 (n:Nat):((n:Int)==0)=decide (n=0):=by
 rw[Bool.eq_iff_iff];simp
def aj.Fit (w:aj):Prop:=(∀m∈w.al,kv m.aO/\kv m.to)/\∀d∈w.calls,kv d.ao
def dJ (a b:cx):cx:=if bV a b then b else a
def Eu (a b x:cx):bV x (dJ a b)=(bV x a||bV x b):=by
 obtain⟨t,s⟩:=a;obtain⟨t',s'⟩:=b;obtain⟨t2,s2⟩:=x;unfold dJ;rw[Bool.eq_iff_iff];by_cases h:bV ⟨t,s⟩ ⟨t',s'⟩=true
 .rw[if_pos h];simp[bV] at h⊢;omega
 rw[if_neg h];simp[bV] at h⊢;omega
def IN {a b:cx} (h:∀x,bV x a=bV x b):a=b:=by
 have h1:=h a;have h2:=h b;have e:∀s:cx,bV s s=false:=λs=>by simp[bV]
 rw[e] at h1 h2;exact PT h1.symm h2
def IP (a b d:cx):dJ (dJ a b) d=dJ a (dJ b d):=IN λx=>by simp only[Eu,Bool.or_assoc]
def Z2 (a b:cx):dJ a b=dJ b a:=IN λx=>by simp only[Eu];rw[Bool.or_comm]
def oQ (s:Server) (l:List aE) (i:Nat):Bool:=cM s (ab l i).key !=0
def PZ (x:cY):(!aH x.ba 0 9999||!aH x.bD 0 2||((x.bD !=0)&&decide (x.ba<1)))=!rn x:=by
 rw[<-IK];by_cases h:aH x.ba 0 9999=true
 .have e:decide (x.ba<1)=(x.ba==0):=by
   simp[aH] at h;rw[Bool.eq_iff_iff];simp;omega
  rw[e]
 simp[h]
def fJ:List aE->aE->List aE
 |[],v=>[v]
 |x::r,v=>if fG x v then x::fJ r v else v::x::r
def P0:∀{l:List aE} {v:aE} {n:Nat},n<=l.length->(∀i,i<n->fG (ab l i) v=true)->(n<l.length->fG (ab l n) v=false)->l.take n++v::l.drop n=fJ l v
 |[],v,n,h,_,_=>by have:n=0:=by simpa using h
                   subst this;rfl
 |x::r,v,0,_,_,h2=>by
  have:=h2 bk;have e:fG x v=false:=this;simp[fJ,e]
 |x::r,v,n+1,h,h1,h2=>by
  have e:fG x v=true:=h1 0 om;have ih:=P0 (l:=r) (v:=v) (n:=n) (by simpa using h) (λi hi=>h1 (i+1) om) (λhl=>h2 (by simpa using hl));simp[fJ,e,ih]
def zb {a b d:au} (h:eD a b=true) (h':eD b d=true):eD a d=true:=by
 obtain⟨k,⟨t,s⟩⟩:=a;obtain⟨k',⟨t',s'⟩⟩:=b;obtain⟨k2,⟨t2,s2⟩⟩:=d;simp[eD,bV] at h h'⊢;omega
def VS (l:List aE):Prop:=l.Pairwise λa b=>fG a b=true
def gL:∀{l:List aE} {v x:aE},x∈fJ l v↔x=v\/x∈l
 |[],v,x=>by simp[fJ]
 |y::r,v,x=>by
  unfold fJ;split
  .rw[List.mem_cons,gL (l:=r),List.mem_cons];constructor
   .rintro(h|h|h)<;>simp[h]
   rintro(h|h|h)<;>simp[h]
  rw[List.mem_cons]
def P1 (l:List aE) (v:aE):(fJ l v).length=l.length+1:=by
 induction l with
 |nil=>rfl
 |cons x r ih=>unfold fJ;split<;>simp[ih]
def zc {l:List aE} {d:au} (h:0<=placeOf l d):(placeOf l d).toNat<l.length/\(ab l (placeOf l d).toNat).aU=d:=by
 unfold placeOf df at*;split at h
 .rename_i k hk;obtain⟨h1,h2,_⟩:=List.findIdx?_eq_some_iff_getElem.1 hk;refine⟨by simpa using h1,?_⟩;simp only[Int.toNat_natCast];simpa[ab,h1,lY] using h2
 omega
def eY (out:List aE) (v:aE):List aE:=if placeOf out v.aU<0 then fJ out v else out
def Z3 {out:List aE} {v x:aE} (h:x∈eY out v):x=v\/x∈out:=by
 unfold eY at h;split at h
 .exact gL.1 h
 exact Or.inr h
def Z4 (out:List aE) (v:aE):(eY out v).length<=out.length+1:=by
 unfold eY;split
 .rw[P1];exact Nat.le_refl _
 omega
def xo:∀{l out:List aE} {x:aE},x∈l.foldl eY out->x∈l\/x∈out
 |[],_,_,h=>Or.inr h
 |v::r,out,x,h=>by
  rcases xo (l:=r) h with h1|h1
  .exact Or.inl (by simp[h1])
  rcases Z3 h1 with rfl|h2
  .exact Or.inl bk
  exact Or.inr h2
def BI:∀(l out:List aE),(l.foldl eY out).length<=out.length+l.length
 |[],_=>by simp
 |v::r,out=>by
  have:=BI r (eY out v);have h2:=Z4 out v;simp at this⊢;omega
def BJ {l out:List aE} {k:Nat} (h:k<l.length):(l.take (k+1)).foldl eY out=eY ((l.take k).foldl eY out) (ab l k):=by
 rw[eT h,List.foldl_append];rfl
def cN (w:aj) (s:Int):List aE:=(ab w.aA (2*s+1).toNat).ai.foldl eY (ab w.aA (2*s).toNat).ai
def oR (key:Int) (v:aE):Bool:=v.key==key
def dV (l:List aE) (key:Int):Option aE:=l.reverse.find? (oR key)
def P2 {l:List aE} {key:Int} {k:Nat} (hk:k<l.length) (h:∀i,k<i->i<l.length->oR key (ab l i)=false) (hp:oR key (ab l k)=true):dV l key=some (ab l k):=by
 unfold dV;rw[List.find?_eq_some_iff_getElem];refine⟨hp,l.length-1-k,by simp;omega,?_,λj hj=>?_⟩
 .rw[List.getElem_reverse];simp[ab];rw[List.getElem?_eq_getElem hk];simp;congr 1;omega
 rw[List.getElem_reverse];have:=h (l.length-1-j) om om;have e:l[l.length-1-j]'om=ab l (l.length-1-j):=by unfold ab;rw[List.getD_eq_getElem?_getD,List.getElem?_eq_getElem om];rfl
 rw[e,this];rfl
def rv {l:List aE} {key:Int} {v:aE} (h:dV l key=some v):v∈l/\v.key=key:=by
 unfold dV at h;have h1:=List.mem_of_find?_eq_some h;have h2:=List.find?_some h;exact⟨List.mem_reverse.1 h1,by simpa[oR] using h2⟩
def eR (slot:Int) (v:aE):Bool:=cL v.key==slot
def eW (l:List au) (d:au):Int:=df (λe=>decide (e=d)) l
def ew (s:Server) (d:au):Bool:=decide (0<=placeOf s.ai d)||decide (0<=eW s.aV d)
def xp (s:Server) (v:aE):Bool:=de v.aQ.length λi=>ew s (ab v.aQ i)
def ry (d:au) (v:aE):Bool:=decide (0<=eW v.aQ d)
def gY (s:Server) (d:au):Bool:=!de s.waits.length λi=>!ry d (ab s.waits i)
def fq (s:Server) (key:Int):Bool:=c7 key&&(cM s key==1)
def ic (s:Server) (v:aE):Bool:=(cM s v.key==1)&&xp s v
def dx (s:Server):Int:=if s.ai.length<80 then df (ic s) s.waits else-1
def mw (s:Server) (n:Nat):Server:={s with ai:=fJ s.ai (ab s.waits n),waits:=s.waits.take n++s.waits.drop (n+1)}
def iR:Nat->Server->Server
 |0,s=>s
 |n+1,s=>if dx s<0 then s else iR n (mw s (dx s).toNat)
def gZ (s:Server):Server:=iR s.waits.length s
def Ew (s:Server):Server:={s with aV:=s.aV.filter (gY s)}
def dB (s:Server):Server:=Ew (gZ s)
def vw {s:Server} (h:0<=dx s):(dx s).toNat<s.waits.length/\s.ai.length<80/\ic s (ab s.waits (dx s).toNat)=true:=by
 unfold dx at*;split at h
 .rename_i hl;rw[if_pos hl];unfold df at*;split at h
  .rename_i k hk;obtain⟨h1,h2,_⟩:=List.findIdx?_eq_some_iff_getElem.1 hk;exact⟨by simpa using h1,hl,by simpa[ab,h1] using h2⟩
  omega
 omega
def Ex {s:Server} {n:Nat} (h:n<s.waits.length):(mw s n).waits.length=s.waits.length-1:=by simp[mw];omega
def P3 {s:Server} (h:0<=dx s):gZ s=gZ (mw s (dx s).toNat):=by
 have hl:=(vw h).1;unfold gZ;rw[Ex hl];obtain⟨n,hn⟩:∃n,s.waits.length=n+1:=⟨s.waits.length-1,by omega⟩;rw[hn];show(if dx s<0 then s else _)=_;rw[if_neg om];rfl
structure fg (s:Server):Prop where
 aw:s.aw.length=3
 ai:cg s.ai=true
 waits:cg s.waits=true
 apart:∀v∈s.waits,placeOf s.ai v.aU<0
 aV:s.aV.length<=80
def gG (slot:Int) (d:au):Bool:=cL d.key==slot
def dW (s:Server) (slot:Int):Server:=
 {s with ai:=s.ai.filter λv=>!eR slot v,waits:=s.waits.filter λv=>!eR slot v,aD:=s.aD.filter λd=>!gG slot d}
def fh (s:Server) (m:ax):List cx:=m.aQ.map au.aq++(match dV s.ai m.key with|some v=>[v.aq]|none=>[])
def sT (s:Server) (m:ax):Bool:=cr m.aO&&(bM m.aO !=bM s.site)&&decide (m.ai.length=1)&&fq s (ab m.ai 0).key&&(bM (ab m.ai 0).aq.site !=bM s.site)
def iS (s:Server) (m:ax):Server:=
 if cr m.aO&&(bM m.aO !=bM s.site)&&decide (0<=eW s.aD ⟨m.key,m.aq⟩)&&(cM s m.key==1) then
  {s with aD:=s.aD.take (eW s.aD ⟨m.key,m.aq⟩).toNat++s.aD.drop ((eW s.aD ⟨m.key,m.aq⟩).toNat+1)}
 else s
def iT (l:List aE) (vs:List aE):List aE:=vs.foldl eY l
def oT (s:Server) (m:ax):Bool:=
 let x:=dW s m.slot
 decide (x.ai.length+m.ai.length<=80)&&decide (x.waits.length+m.waits.length<=80)&&decide (x.aD.length+m.aD.length<=80)
def kg (s:Server) (m:ax):Server:=let x:=dW s m.slot;{x with aw:=x.aw.set m.slot.toNat ⟨m.ba,0⟩}
def j5 (s:Server) (asked:List au) (d:au):List au:=if ew s d||decide (0<=eW asked d) then asked else asked++[d]
def uc (s:Server):List au:=(s.waits.map aE.aQ).flatten.foldl (j5 s) []
def Ey (s:cx):([s.time,s.site] !=[0,0])=!dS s:=by
 rw[Bool.eq_iff_iff];simp[dS];omega
def P4 {q:Call} {time:Int} (h:ru q time=true):1<=q.bH/\q.bH<=time/\q.aL.length<=6:=by
 simp only[ru,Bool.not_eq_true',Bool.or_eq_false_iff] at h;have h1:=h.2;have h2:=h.1.2;simp at h2;have:=iE h2;simp[aH] at h1;omega
def Z5 {n:Nat} (h:(20:Int)<n):decide (n<=20)=false:=by simp;omega
def zd {α β:Type} [Inhabited β] {f:α->β->α} {z:α} {l:List β} {k:Nat} (h:k<l.length):(l.take (k+1)).foldl f z=f ((l.take k).foldl f z) (ab l k):=by
 rw[eT h,List.foldl_append];rfl
def P5 {l out:List aE} (h1:∀v∈l,v.aQ.length<=6) (h2:∀v∈out,v.aQ.length<=6):∀v∈l.foldl eY out,v.aQ.length<=6:=λv hv=>(xo hv).elim (h1 v) (h2 v)
def IQ {v:aE} (h:dL v=true):bU v.aQ=true:=by
 simp only[dL,Bool.and_eq_true] at h;exact h.1.2
def Ez (l:List au) (h:l.length<=1048576):
 lf prog 104 [bE l] 115 3 (l.map au.cells):=by
 refine lf.intro 5 func104 rfl ntmps104 rfl aS (λW I a U=>?_);refine aG λI a w U=>?_;have U:=U.hP (sz:=3) 115;refine U.append 0 rfl en cV rfl .c .r rfl gQ λv4 a w U=>?_;refine aB λI a w U=>?_;exact U.Bg (r:=2) 0 rfl rfl rfl rfl
def Server.Z6 (s:Server) (r:Value×Value×Value×Value×Value):AV:=.agg [.int s.site,.bool s.up,.val r.1,.val r.2.1,.val r.2.2.1,.val r.2.2.2.1,.val r.2.2.2.2]
def Server.P6 (s:Server) (r:Value×Value×Value×Value×Value):List Own:=[Own.row r.1 46 2 (s.aw.map cY.cells),Own.row r.2.1 62 7 (s.ai.map aE.cells),Own.row r.2.2.1 62 7 (s.waits.map aE.cells),Own.row r.2.2.2.1 115 3 (s.aD.map au.cells),Own.row r.2.2.2.2 115 3 (s.aV.map au.cells)]
def nY {α:Type} [Inhabited α] {p:α->Bool} {l:List α} {k:Nat} (h:k<l.length) (hp:p (ab l k)=true):(l.take (k+1)).filter p=(l.take k).filter p++[ab l k]:=by
 rw[eT h,List.filter_append,List.filter_cons,hp];rfl
def IS {a:Bool} {key:Int} (h:(a&&c7 key)=true):0<=cL key/\cL key<3:=rr (by rw[Bool.and_eq_true] at h;exact h.2)
def xq {α:Type} [Inhabited α] {R:α->α->Prop} {l:List α} (h:l.Pairwise R) {i j:Nat} (j9:i<j) (hj:j<l.length):R (ab l i) (ab l j):=by
 rw[List.pairwise_iff_getElem] at h;have:=h i j om hj j9;have e:∀k (hk:k<l.length),l[k]=ab l k:=λk hk=>by simp[ab,hk]
 rwa[e i om,e j hj] at this
def P7 {a b d:aE} (h:fG a b=true) (h':fG b d=true):fG a d=true:=zb h h'
def xu {α:Type} (l:List α) (n:Nat):(l.take n++l.drop (n+1)).Sublist l:=by
 have e:l=l.take n++l.drop n:=(List.take_append_drop n l).symm;conv=>rhs;rw[e]
 refine List.Sublist.append (List.Sublist.refl _) ?_;rw[<-List.drop_drop];exact List.drop_sublist 1 _
def Z7 {s:Server} {k:Nat} (pT:s.ai.length<80) (hk:k<s.waits.length) (h:∀i,i<k->ic s (ab s.waits i)=false) (hp:ic s (ab s.waits k)=true):dx s=k:=by
 unfold dx;rw[if_pos pT];exact mQ hk h hp
def IT:∀(n:Nat) (s:Server),(iR n s).site=s.site/\(iR n s).up=s.up/\(iR n s).aw=s.aw/\(iR n s).aD=s.aD/\(iR n s).aV=s.aV
 |0,s=>⟨rfl,rfl,rfl,rfl,rfl⟩
 |n+1,s=>by
  unfold iR;split
  .exact⟨rfl,rfl,rfl,rfl,rfl⟩
  obtain⟨a,b,d,e,f⟩:=IT n (mw s (dx s).toNat);exact⟨a,b,d,e,f⟩
def fg.Z8 {s:Server} (h:fg s) {x:List cY} (hx:x.length=3):fg {s with aw:=x}:=⟨hx,h.ai,h.waits,h.apart,h.aV⟩
def P8 {l:List au} {d:au} (h:0<=eW l d):(eW l d).toNat<l.length:=by
 unfold eW df at*;split at h
 .rename_i k hk;obtain⟨h1,_⟩:=List.findIdx?_eq_some_iff_getElem.1 hk;simpa using h1
 omega
structure bG (s:Server):Prop where
 site:cr s.site=true
 aw:s.aw.length=3
 ai:cg s.ai=true
 waits:cg s.waits=true
 aD:fZ s.aD=true
 aV:fZ s.aV=true
 up:s.up=false->s.aV=[]
 aK:∀x∈s.aw,rn x=true
 here:∀v∈s.ai,cM s v.key≠0
 nZ:∀v∈s.waits,cM s v.key≠0
 n5:∀v∈s.waits,bM v.aq.site≠bM s.site
 apart:∀v∈s.waits,∀x∈s.ai,x.aU≠v.aU
 ly:∀d∈s.aD,∃x∈s.ai,x.aU=d
def P9 {l:List aE} {v:aE} {d:au} (h:∃x∈l,x.aU=d):∃x∈fJ l v,x.aU=d:=let⟨x,hx,e⟩:=h;⟨x,gL.2 (.inr hx),e⟩
def Z9 {s:Server} {v:aE} (h:ic s v=true):cM s v.key=1:=by
 unfold ic at h;rw[Bool.and_eq_true] at h;simpa using h.1
def aaa (s:Server):(gZ s).site=s.site/\(gZ s).up=s.up/\(gZ s).aw=s.aw/\(gZ s).aD=s.aD/\(gZ s).aV=s.aV:=IT _ s
def ud (s:Server):(dB s).site=s.site/\(dB s).up=s.up/\(dB s).aw=s.aw/\(dB s).aD=s.aD:=by
 obtain⟨a,b,d,e,_⟩:=aaa s;exact⟨a,b,d,e⟩
def aab {s:Server} {slot:Int} {y:cY} {key:Int} (h:cL key≠slot) (h0:0<=slot) (hk:c7 key=true):cM {s with aw:=s.aw.set slot.toNat y} key=cM s key:=by
 have hr:=rr hk;unfold cM ab;simp only[List.getD_eq_getElem?_getD];rw[List.getElem?_set_ne om]
def aac {s:Server} {slot:Int} {y:cY} {key:Int} (h:cL key=slot) (h0:0<=slot) (h3:slot<s.aw.length):cM {s with aw:=s.aw.set slot.toNat y} key=y.bD:=by
 unfold cM ab;simp only[List.getD_eq_getElem?_getD,h];rw[List.getElem?_set_self om];rfl
def rz {x:cY}:rn x=true↔0<=x.ba/\x.ba<=9999/\0<=x.bD/\x.bD<=2/\(x.bD≠0->x.ba≠0):=by
 unfold rn aH;simp only[Bool.and_eq_true,decide_eq_true_eq,Bool.not_eq_true',Bool.and_eq_false_iff,bne_eq_false_iff_eq,beq_eq_false_iff_ne];constructor
 .rintro⟨⟨⟨a,b⟩,d,e⟩,f⟩;exact⟨a,b,d,e,λh=>f.resolve_left h⟩
 rintro⟨a,b,d,e,f⟩;exact⟨⟨⟨a,b⟩,d,e⟩,by by_cases h:x.bD=0;exact .inl h;exact .inr (f h)⟩
def kJ {m:ax} (h:bI m=true):(1<=m.kind/\m.kind<=10)/\kb m.aO=true/\kb m.to=true/\(0<=m.call/\m.call<=99)/\c7 m.key=true/\lU m.aq=true/\(0<=m.val/\m.val<=9999)/\bU m.aQ=true/\(0<=m.slot/\m.slot<=2)/\(0<=m.ba/\m.ba<=9999)/\cg m.ai=true/\cg m.waits=true/\fZ m.aD=true:=by
 simp only[bI,Bool.and_eq_true,aH,decide_eq_true_eq] at h;obtain⟨⟨⟨⟨⟨⟨⟨⟨⟨⟨⟨⟨a1,a2⟩,a3⟩,a4⟩,a5⟩,a6⟩,a7⟩,a8⟩,a9⟩,xv⟩,BK⟩,IU⟩,IV⟩:=h;exact⟨a1,a2,a3,a4,a5,a6,a7,a8,a9,xv,BK,IU,IV⟩
def xx {s:Server} {key:Int} (h:fq s key=true):c7 key=true/\cM s key=1:=by
 unfold fq at h;rw[Bool.and_eq_true] at h;exact⟨h.1,by simpa using h.2⟩
def BL {s:Server} {m:ax} (h:sT s m=true):cr m.aO=true/\bM m.aO≠bM s.site/\m.ai.length=1/\fq s (ab m.ai 0).key=true/\bM (ab m.ai 0).aq.site≠bM s.site:=by
 unfold sT at h;simp only[Bool.and_eq_true,decide_eq_true_eq,bne_iff_ne] at h;exact⟨h.1.1.1.1,h.1.1.1.2,h.1.1.2,h.1.2,h.2⟩
def iF {n:Int}:cr n=true↔0<=n/\n<=3:=by simp[cr,aH]
def sU {n:Int} (h:cr n=true):bM n=n/2/\0<=bM n/\bM n<=1:=by
 have h1:=iF.1 h;unfold bM;rw[h,if_pos rfl];omega
def aad {s:Server} {asked:List au} {d x:au} (h:x∈j5 s asked d):x∈asked\/x=d:=by
 unfold j5 at h;split at h
 .exact .inl h
 rcases List.mem_append.1 h with h|h
 .exact .inl h
 exact .inr (by simpa using h)
def IW {s:Server}:∀{l asked:List au} {x:au},x∈l.foldl (j5 s) asked->x∈asked\/x∈l
 |[],_,_,h=>.inl h
 |d::r,asked,x,h=>by
  rcases IW (l:=r) h with h|h
  .rcases aad h with h|h
   .exact .inl h
   exact .inr (by simp[h])
  exact .inr (by simp[h])
def vx {m:ax} (h:bI m=true):0<=m.aO/\m.aO<=11/\0<=m.to/\m.to<=11:=by
 have p:=kJ h;have h1:=p.2.1;have h2:=p.2.2.1;simp only[kb,cr,aH,Bool.or_eq_true,Bool.and_eq_true,decide_eq_true_eq] at h1 h2;omega
def IX {α:Type} {l:List α} {i:Nat} {a:α} (h:i<l.length):a∈l.set i a:=by
 rw[List.mem_iff_getElem];exact⟨i,by simpa using h,by simp⟩
def ze (s:Server):(dB s).site=s.site:=(ud s).1
def Qa (s:Server) (v:aE):(((ab s.aw (cL v.key).toNat).bD !=1)||!xp s v)=!ic s v:=by
 unfold ic cM;simp only[bne];cases((ab s.aw (cL v.key).toNat).bD==1)<;>simp
def aae {u u2:Server} {g2:Bool} {i:Nat} (hf:g2=false->u=u2/\i<=u.waits.length/\(u.ai.length<80->∀j,j<i->ic u (ab u.waits j)=false))
 (ht:g2=true->0<=dx u/\u2=mw u (dx u).toNat):2*u2.waits.length+g2.toNat<2*u.waits.length+true.toNat:=by
 cases g2 with
 |true=>
  obtain⟨h1,rfl⟩:=ht rfl
  have:=(vw h1).1
  rw[Ex this];simp;omega
 |false=>
  obtain⟨rfl,h1,h2⟩:=hf rfl
  simp
def Qb (s:Server) (m:ax):(!cr m.aO||(bM m.aO==bM s.site)||decide (eW s.aD ⟨m.key,m.aq⟩<0)||((ab s.aw (cL m.key).toNat).bD !=1))=
 !(cr m.aO&&(bM m.aO !=bM s.site)&&decide (0<=eW s.aD ⟨m.key,m.aq⟩)&&(cM s m.key==1)):=by
 have e:decide (eW s.aD ⟨m.key,m.aq⟩<0)=!decide (0<=eW s.aD ⟨m.key,m.aq⟩):=by rw[Bool.eq_iff_iff];simp
 rw[e];simp[bne,cM]
def Qc (s:Server) (m:ax):(!cr m.aO||(bM m.aO==bM s.site)||((m.ai.length:Int) !=1)||!fq s (ab m.ai 0).key||(bM (ab m.ai 0).aq.site==bM s.site))=!sT s m:=by
 have e:((m.ai.length:Int) !=1)=!decide (m.ai.length=1):=by rw[Bool.eq_iff_iff];simp;omega
 unfold sT;rw[e];simp[bne]
def gh {α:Type} [Inhabited α] {f:α->List AV} {l:List α} {i:Nat} (h:i<l.length):(l.map f)[i]?=some (f (ab l i)):=by rw[List.getElem?_map,Ns h];rfl
def BM {α:Type} {o:Option α} (h:(!o.isSome)=true):o=none:=by cases o;rfl;cases h
def EA {α:Type} [Inhabited α] {p:α->Bool} {l:List α} (h:0<=df p l):(df p l).toNat<l.length/\p (ab l (df p l).toNat)=true/\∀i,i<(df p l).toNat->p (ab l i)=false:=by
 unfold df at*;split at h
 .rename_i k hk;obtain⟨h1,h2,h3⟩:=List.findIdx?_eq_some_iff_getElem.1 hk;refine⟨by simpa using h1,by simpa[ab,h1] using h2,λi hi=>?_⟩;have qX:i<k:=by simpa using hi
  have ld:i<l.length:=by omega
  have:=h3 i qX;simpa[ab,ld] using this
 omega
def EB {s:Server} {m:ax} (h:(dV s.ai m.key).isSome=true):m.aQ.map au.aq++[((dV s.ai m.key).getD default).aq]=fh s m:=by
 obtain⟨v,hv⟩:=Option.isSome_iff_exists.1 h;unfold fh;rw[hv];rfl
def EC {s:Server} {m:ax} (h:(dV s.ai m.key).isSome=false):m.aQ.map au.aq=fh s m:=by
 have e:dV s.ai m.key=none:=by cases hh:dV s.ai m.key;rfl;rw[hh] at h;cases h
 unfold fh;rw[e];simp
def ED {l vs:List aE} {k:Nat} (h:k<vs.length):iT l (vs.take (k+1))=eY (iT l (vs.take k)) (ab vs k):=BJ h
def IY (l vs:List aE) (k:Nat):(iT l (vs.take k)).length<=l.length+k:=by
 have h1:=BI (vs.take k) l;have h2:(vs.take k).length<=k:=by simp;omega
 unfold iT;omega
def Qd:∀{vs l:List aE} {x:aE},x∈l->x∈vs.foldl eY l
 |[],l,x,h=>h
 |v::vs,l,x,h=>by
  refine Qd (vs:=vs) ?_;unfold eY;split
  .exact gL.2 (.inr h)
  exact h
def aaf {l vs:List aE} (hl:∀v∈l,v.aQ.length<=6) (hv:∀v∈vs,v.aQ.length<=6) (k:Nat):∀v∈iT l (vs.take k),v.aQ.length<=6:=
 P5 (λv h=>hv v (List.mem_of_mem_take h)) hl
def Server.avK (s:Server) (x:AV):AV:=.agg [.int s.site,.bool s.up,su s.aw,cn s.ai,cn s.waits,bE s.aD,x]
def aah (s:Server):(s.aV.filter λd=>!(!gY s d))=s.aV.filter (gY s):=by simp
def Qe {s:Server} (h:¬s.ai.length<80):dx s<0:=by unfold dx;rw[if_neg h];decide
def aai {s:Server} (h:s.ai.length<80):dx s=df (ic s) s.waits:=by unfold dx;rw[if_pos h]
def IZ {s:Server} {m:ax} (h:(s.up&&bI m&&(m.to==s.site))=true):s.up=true/\bI m=true:=by
 rw[Bool.and_eq_true,Bool.and_eq_true] at h;exact h.1
def ue (s:Server) (k:Nat):List Nat:=(List.range k).filter λi=>(ab s.aw i).bD==2
def aaj {s:Server} {k:Nat} (h:(ab s.aw k).bD=2):ue s (k+1)=ue s k++[k]:=by
 unfold ue;rw[List.range_succ,List.filter_append];simp[h]
def aak {s:Server} {k:Nat} (h:¬(ab s.aw k).bD=2):ue s (k+1)=ue s k:=by
 unfold ue;rw[List.range_succ,List.filter_append];simp[h]
def aal (s:Server) (k:Nat):(ue s k).length<=k:=by
 have:=List.length_filter_le (λi=>(ab s.aw i).bD==2) (List.range k);rw[List.length_range] at this;exact this
def nw (s:Server) (i:Nat):List au:=((s.waits.take i).map aE.aQ).flatten.foldl (j5 s) []
def jH (s:Server) (i j:Nat):List au:=((ab s.waits i).aQ.take j).foldl (j5 s) (nw s i)
def zf {s:Server} {i j:Nat} (h:j<(ab s.waits i).aQ.length):jH s i (j+1)=j5 s (jH s i j) (ab (ab s.waits i).aQ j):=by
 unfold jH;rw[eT h,List.foldl_append];rfl
def I4 {s:Server} {i j:Nat} (h:i<s.waits.length) (hj:(ab s.waits i).aQ.length<=j):jH s i j=nw s (i+1):=by
 unfold jH nw;rw[List.take_of_length_le hj,eT h,List.map_append,List.flatten_append,List.foldl_append];simp
def I5 (s:Server) {i:Nat} (h:s.waits.length<=i):nw s i=uc s:=by unfold nw uc;rw[List.take_of_length_le h]
def aam (s:Server) (l:List au) (d:au):(j5 s l d).length<=l.length+1:=by unfold j5;split<;>simp
def Qf (s:Server):∀(l asked:List au),(l.foldl (j5 s) asked).length<=asked.length+l.length
 |[],asked=>by simp
 |d::r,asked=>by have:=Qf s r (j5 s asked d);have:=aam s asked d;simp only[List.foldl_cons,List.length_cons];omega
def BN (s:Server) (i j:Nat):(jH s i j).length<=(nw s i).length+j:=by
 have h1:=Qf s ((ab s.waits i).aQ.take j) (nw s i);have h2:((ab s.waits i).aQ.take j).length<=j:=by simp;omega
 unfold jH;omega
def Qg {s:Server} {l:List au} {d:au} (h:(!ew s d&&decide (eW l d<0))=false):j5 s l d=l:=by
 unfold j5;rw[if_pos];rw[Bool.or_eq_true,decide_eq_true_eq];rw[Bool.and_eq_false_iff,Bool.not_eq_false',decide_eq_false_iff_not] at h;rcases h with h|h
 .exact .inl h
 exact .inr om
def EE {s:Server} {l:List au} {d:au} (h:(!ew s d&&decide (eW l d<0))=true):j5 s l d=l++[d]:=by
 unfold j5;rw[if_neg];rw[Bool.or_eq_true,decide_eq_true_eq];rw[Bool.and_eq_true,Bool.not_eq_true',decide_eq_true_eq] at h;rw[h.1];simp;omega
def Qh {s:Server} {m:ax} (ho:(cr m.aO&&(bM m.aO !=bM s.site))=true):(((m.ai.length:Int) !=1)||!fq s (ab m.ai 0).key||!(bM (ab m.ai 0).aq.site !=bM s.site))=!sT s m:=by
 have e:((m.ai.length:Int) !=1)=!decide (m.ai.length=1):=by rw[Bool.eq_iff_iff];simp;omega
 unfold sT;rw[e,ho];simp
def Call.avG (q:Call) (g:Value):AV:=.agg [AV.int q.ao,AV.int q.num,AV.int q.kind,jb q.keys,AV.int q.val,bE q.ctx,AV.int q.bH,AV.int q.end_,AV.bool q.over,AV.int q.aq.time,AV.int q.aq.site,.val g,bE q.aL]
def pU (q:Call) (a:Answer) (k:Nat):List au:=(q.aL.take k).filter λd=>decide (d≠a.bl.aU)
def aao {q:Call} {a:Answer} {k:Nat} (h:k<q.aL.length) (he:ab q.aL k≠a.bl.aU):pU q a k++[ab q.aL k]=pU q a (k+1):=(nY h (by simp[he])).symm
def Qi (q:Call) (x:Answer) (k:Nat):(((((pU q x k).map au.cells).length:Int)==0)&&decide (0<(q.aL.length:Int)))=decide (pU q x k=[]/\q.aL≠[]):=by
 rw[List.length_map,Bool.eq_iff_iff];simp;intro _;exact⟨λh e=>by rw[e] at h;simp at h,λh=>by cases hq:q.aL with|nil=>exact absurd hq h|cons _ _=>simp⟩
def aap (m:ax) (d:au):
 Fn prog 254 [d.av,AV.ptr m.cells] (AV.bool (decide (d.key=m.key))):=by
 refine Fn.go 9 func254 ntmps254 (λW I a U=>?_);refine py λI a w U=>?_;refine U.rt ?_;exact congrArg AV.bool (by rw[Bool.eq_iff_iff];simp)
def aaq (l:List aE):
 Fn prog 124 [cn l] (AV.fn 177 [AV.ptr [cn l]]):=by
 refine Fn.go 4 func124 ntmps124 (λW I a U=>?_);refine zt ?_;refine U.o (yr .tt (by first|exact lG rfl|exact lQ|exact lR|exact lV)) λU=>?_;refine aB λI a w U=>?_;refine U.o (oD (az .tt aI)) λU=>?_;refine bh ?_;rfl
def aar {m:ax} (h:bI m=true) (h2:aH m.to 10 11=false):0<=m.to/\m.to<=3:=by
 have:=(kJ h).2.2.1;simp only[kb,cr,Bool.or_eq_true] at this;rw[h2] at this;simpa[aH] using this
def aas (l:List Call) (h:l.length<=1048576):
 lf prog 196 [jl l] 53 13 (l.map Call.cells):=by
 refine lf.intro 8 func196 rfl ntmps196 rfl aS (λW I a U=>?_);refine aG λI a w U=>?_;obtain⟨qa,ca,hqa,U⟩:=U.YS (t:=3) rfl;refine U.o (YR oO .tt .c) λU=>?_;refine zt ?_;refine U.cd (λae=>?_) λae=>?_
 .refine aB λI a w U=>?_;have U:=U.hP (sz:=13) 53;have qT:l=[]:=List.map_eq_nil_iff.1 (hqa (by simpa using ae));subst qT;exact U.Bg (r:=2) 0 rfl rfl rfl rfl
 refine zt ?_;refine U.l0 λb5 I a w U=>?_;refine U.m λU=>?_;refine U.ap 0 λv7 a w U=>?_;refine aB λI a w U=>?_;exact U.Bg (r:=2) 0 rfl rfl rfl rfl
def aau {m:ax} (h:bI m=true) (U:cr m.to=false):aH m.to 10 11=true:=by
 have:=(kJ h).2.2.1;unfold kb at this;rw[U,Bool.false_or] at this;exact this
def aav {n:Int} (h:cr n=true):aH n 10 11=false:=by
 have:=iF.1 h;unfold aH;rw[Bool.and_eq_false_iff,decide_eq_false_iff_not,decide_eq_false_iff_not];omega
def pV (bs:List UInt8) (i:Int):Int:=((ab bs i.toNat).toNat:Int)
def xy (bs:List UInt8) (k:Int):Int:=pV bs (k%bs.length)*131+pV bs ((k*7+3)%bs.length)*1117+k*29+k/bs.length*53
def dE (bs:List UInt8) (p n:Int):Int:=
 if n<1\/bs.length=0 then 0 else if p<bs.length then pV bs p%n else sF (xy bs p) (xy bs p/64)%n
def n6 (bs:List UInt8) (i:Int):0<=pV bs i:=Int.natCast_nonneg _
def n9 (bs:List UInt8) (i:Int):pV bs i<256:=by have:=(ab bs i.toNat).toNat_lt;unfold pV;omega
def iU (bs:List UInt8) (p n:Int):0<=dE bs p n:=by
 unfold dE;split
 .omega
 rename_i h;split
 .exact Int.emod_nonneg _ om
 exact Int.emod_nonneg _ om
def jd (bs:List UInt8) (p:Int) {n:Int} (h:0<n):dE bs p n<n:=by
 unfold dE;split
 .omega
 split
 .exact Int.emod_lt_of_pos _ h
 exact Int.emod_lt_of_pos _ h
def xz (bs:List UInt8) (p:Int) {n:Int} (h:0<n):0<=dE bs p n/\dE bs p n<n:=⟨iU ..,jd bs p h⟩
def iw (bs:List UInt8) (p n:Int) (h:n<=4611686018427387904):0<=dE bs p n/\dE bs p n<4611686018427387904:=by
 refine⟨iU ..,?_⟩;by_cases h0:0<n
 .have:=jd bs p h0;omega
 unfold dE;rw[if_pos om];omega
def gM (x:Int):Prop:=-4611686018427387904<=x/\x<=4611686018427387904
def Ev.zh (e:Ev):Prop:=∀x∈e.ints,gM x
def kh {a b c d e f g h i j k:Int} (h1:gM a:=by unfold gM;omega) (h2:gM b:=by unfold gM;omega) (h3:gM c:=by unfold gM;omega) (h4:gM d:=by unfold gM;omega) (h5:gM e:=by unfold gM;omega) (h6:gM f:=by unfold gM;omega)
 (h7:gM g:=by unfold gM;omega) (h8:gM h:=by unfold gM;omega) (h9:gM i:=by unfold gM;omega) (D6:gM j:=by unfold gM;omega) (Dk:gM k:=by unfold gM;omega):Ev.zh ⟨a,b,c,d,e,f,g,h,i,j,k⟩:=by
 intro x hx;unfold gM at*;simp only[Ev.ints,List.mem_cons,List.not_mem_nil,or_false] at hx;rcases hx with rfl|rfl|rfl|rfl|rfl|rfl|rfl|rfl|rfl|rfl|rfl<;>omega
def aaw {x i:Int} (h:gM x):gM (ab [0,2,x] i.toNat):=by
 unfold gM at*;have:∀k:Nat,ab [0,2,x] k=0\/ab [0,2,x] k=2\/ab [0,2,x] k=x:=λk=>by
  match k with
  |0=>exact .inl rfl
  |1=>exact .inr (.inl rfl)
  |2=>exact .inr (.inr rfl)
  |k+3=>exact .inl rfl
 rcases this i.toNat with h|h|h<;>omega
def aax {bs:List UInt8} {p n:Int} (h:(decide (n<1)||((bs.length:Int)==0))=true):0=dE bs p n:=by
 simp only[Bool.or_eq_true,decide_eq_true_eq,beq_iff_eq] at h;unfold dE;rw[if_pos om]
def EF {x:Int} (h1:0<=x) (h2:x<4611686018427387904):gM x:=by unfold gM;omega
def aay {bs:List UInt8} {p n m:Int} (h:n<=m) (hm:0<=m):dE bs p n<=m:=by
 by_cases h0:0<n
 .have:=jd bs p h0;omega
 unfold dE;rw[if_pos om];omega
def Qj:Ev:=⟨0,0,0,0,0,0,0,0,0,0,0⟩
def jR (q p:Call):Prop:=p.ao=q.ao/\p.num=q.num/\p.kind=q.kind/\p.keys=q.keys/\p.val=q.val/\p.ctx=q.ctx
def jR.refl (q:Call):jR q q:=⟨rfl,rfl,rfl,rfl,rfl,rfl⟩
def EG {key:Int} (h:c7 key=true):0<=cL key/\cL key<=2:=by
 have:=IL.1 h;unfold cL;rw[if_pos h];omega
def jR.trans {a b d:Call} (h:jR a b) (h':jR b d):jR a d:=by
 obtain⟨a1,a2,a3,a4,a5,a6⟩:=h;obtain⟨b1,b2,b3,b4,b5,b6⟩:=h';exact⟨b1.trans a1,b2.trans a2,b3.trans a3,b4.trans a4,b5.trans a5,b6.trans a6⟩
def EH {i:Nat} (hi:i<4):bM (i:Int)=((i/2:Nat):Int):=by
 have h:cr (i:Int)=true:=iF.2 om;unfold bM;rw[h,if_pos rfl];omega
def vy {n:Int} (h:cr n=true):n.toNat<4/\bM n=((n.toNat/2:Nat):Int)/\(n/2).toNat=n.toNat/2/\((n.toNat:Nat):Int)=n:=by
 have h1:=iF.1 h;unfold bM;rw[h,if_pos rfl];omega
def aaz {l:List aE} (hl:VS l) {key:Int} {v u:aE} (h:dV l key=some v) (hu:u∈l) (hk:u.key=key):bV v.aq u.aq=false:=by
 have hv:=rv h;unfold dV at h;rw[List.find?_eq_some_iff_append] at h;obtain⟨_,I6,bs,e,hn⟩:=h;have e2:l=bs.reverse++v::I6.reverse:=by
  have:=congrArg List.reverse e;simpa using this
 have rA:u=v\/u∈bs:=by
  rw[e2] at hu;rcases List.mem_append.1 hu with hu|hu
  .exact .inr (List.mem_reverse.1 hu)
  rcases List.mem_cons.1 hu with hu|hu
  .exact .inl hu
  have:=hn u (List.mem_reverse.1 hu);simp[oR,hk] at this
 rcases rA with rfl|rA
 .simp[bV]
 unfold VS at hl;rw[e2,List.pairwise_append] at hl;have:=hl.2.2 u (List.mem_reverse.2 rA) v bk;unfold fG eD aE.aU at this;rw[hk,hv.2] at this;simp at this;exact Es this
def aaA {l:List aE} {key:Int} (h:dV l key=none) {u:aE} (hu:u∈l):u.key≠key:=by
 unfold dV at h;rw[List.find?_eq_none] at h;have:=h u (List.mem_reverse.2 hu);simpa[oR] using this
def aaB {l:List au} {d:au} (h:0<=eW l d):ab l (eW l d).toNat=d:=by
 unfold eW df at*;split at h
 .rename_i k hk;obtain⟨h1,h2,_⟩:=List.findIdx?_eq_some_iff_getElem.1 hk;simpa[ab,h1] using h2
 omega
def aaC {α:Type} [Inhabited α] {l:List α} {i:Nat} (h:i<l.length):l.set i (ab l i)=l:=by
 apply List.ext_getElem
 .simp
 intro n h1 h2;rw[List.getElem_set];split
 .rename_i e;subst e;simp[ab,h2]
 rfl
def aaD {out:List aE} {v x:aE} (h:x∈out):x∈eY out v:=by
 unfold eY;split
 .exact gL.2 (.inr h)
 exact h
def I7:∀{l out:List aE} {x:aE},x∈out->x∈l.foldl eY out
 |[],_,_,h=>h
 |v::r,out,x,h=>I7 (l:=r) (aaD h)
def lz (s:Server):(dB s).aw=s.aw:=(ud s).2.2.1
def pW (m:ax):Bool:=m.kind==1||m.kind==3||m.kind==5||m.kind==7||m.kind==9
def wt (m:ax):Nat:=if pW m then 2 else 1
def nx (l:List ax):Nat:=(l.map wt).sum
def aaE (l m:List ax):nx (l++m)=nx l+nx m:=by unfold nx;rw[List.map_append,List.sum_append]
def EI (x:ax) (l:List ax):nx (x::l)=wt x+nx l:=rfl
def I8 (l:List ax):nx l<=2*l.length:=by
 induction l with
 |nil=>exact Nat.le_refl _
 |cons x r ih=>
  rw[EI,List.length_cons]
  have:wt x<=2:=by unfold wt;split<;>omega
  omega
def I9 (m:ax):1<=wt m:=by unfold wt;split<;>omega
def xA (s:Server):Prop:=∀d∈s.aV,gY s d=true
def Qk {s t:Server} (h:s.waits=t.waits) (d:au):gY s d=gY t d:=by unfold gY;rw[h]
def zi (s:Server):xA (dB s):=λd hd=>by
 have hd:d∈(gZ s).aV.filter (gY (gZ s)):=hd;rw[Qk (s:=dB s) (t:=gZ s) rfl];exact(List.mem_filter.1 hd).2
def zj (s:Server):(dB s).up=s.up:=(ud s).2.1
def aaF {l:List au} {d:au} (h:0<=eW l d):(eW l d).toNat<l.length/\ab l (eW l d).toNat=d:=by
 unfold eW df at*;split at h
 .rename_i k hk;obtain⟨h1,h2,_⟩:=List.findIdx?_eq_some_iff_getElem.1 hk;refine⟨by simpa using h1,?_⟩;simp only[Int.toNat_natCast];simpa[ab,h1] using h2
 omega
def jq (n a b:Int):
 Fn prog 55 [AV.int n,AV.int a,AV.int b] (AV.bool (aH n a b)):=by
 refine Fn.go 15 func55 ntmps55 (λW I a U=>?_);refine wX λI a w U=>?_;refine U.rt ?_;rfl
def tQ (n:Int):
 Fn prog 106 [AV.int n] (AV.bool (cr n)):=by
 refine Fn.go 5 func106 ntmps106 (λW I a U=>?_);refine aG λI a w U=>?_;refine U.o (.cl (jq ..)) λU=>?_;refine bh ?_;rfl
def Bw (n:Int):
 Fn prog 115 [AV.int n] (AV.bool (c7 n)):=by
 refine Fn.go 5 func115 ntmps115 (λW I a U=>?_);refine aG λI a w U=>?_;refine U.o (.cl (jq ..)) λU=>?_;refine bh ?_;rfl
def Bx (n:Int):
 Fn prog 171 [AV.int n] (AV.bool (fF n)):=by
 refine Fn.go 5 func171 ntmps171 (λW I a U=>?_);refine aG λI a w U=>?_;refine U.o (.cl (jq ..)) λU=>?_;refine bh ?_;rfl
def yY (s:cx):
 Fn prog 118 [s.av] (AV.bool (di s)):=by
 refine Fn.go 11 func118 ntmps118 (λW I a U=>?_);refine bB λI a w U=>?_;refine U.o (.cl (jq ..)) λU=>?_;refine bm λI a w U=>?_;refine U.q .T (.cl (tQ ..)) λU=>?_;refine dG ?_;rfl
def By (n:Int):
 Fn prog 166 [AV.int n] (AV.int (bM n)):=by
 refine Fn.go 8 func166 ntmps166 (λW I a U=>?_);refine aG λI a w U=>?_;refine U.o (.c1 (tQ ..)) λU=>?_;refine aB λI a w U=>?_;refine cz (λae=>?_) λae=>?_
 .refine bh ?_;exact fW (by simp[bM,ae])
 refine bK λI a w U=>?_;refine U.o (yy .tt .c (λ_=>by simp[cr,aH] at ae;omega)) λU=>?_;refine bh ?_;exact fW (by simp[bM,ae])
def rj (n:Int):
 Fn prog 95 [AV.int n] (AV.int (bM n)):=by
 refine Fn.go 8 func95 ntmps95 (λW I a U=>?_);refine aG λI a w U=>?_;refine U.o (.c1 (sG ..)) λU=>?_;refine aB λI a w U=>?_;refine cz (λae=>?_) λae=>?_
 .refine bh ?_;exact fW (by simp[bM,ae])
 refine bK λI a w U=>?_;refine U.o (yy .tt .c (λ_=>by simp[cr,aH] at ae;omega)) λU=>?_;refine bh ?_;exact fW (by simp[bM,ae])
def Bz (l:List au):
 Fn prog 62 [bE l] (AV.bool (bU l)):=by
 refine Fn.go 27 func62 ntmps62 (λW I a U=>?_);refine cI λI a w U=>?_;refine St.lo (σ:=Nat×Int) (run 2 2 (5::(run 19 8 []))) ⟨λ⟨k,last⟩=>[(8,AV.int k),(3,AV.int last)],λ⟨k,last⟩=>[],λ⟨k,last⟩=>k<=l.length/\bU l=eb last (l.drop k)/\-1<=last/\last<=5⟩ (λ⟨k,last⟩=>l.length-k) (0,-1) U ?aJ ?bF;case aJ=>exact⟨by simp,rfl,by omega,by omega⟩
 rintro⟨k,last⟩ I a w an U;obtain⟨hk,hd,hl1,r9⟩:=an;have hle:=U.eC (t:=0) rfl;refine aB λI a w U=>?_;refine cz (λae=>?_) λae=>?_
 .refine aG λI a w U=>?_;refine U.alloc rfl cV gK λb5 I a w U=>?_;refine aB λI a w U=>?_;obtain⟨I,U⟩:=U.fb 0 5;refine bB λI a w U=>?_;refine U.o (.cl (jq ..)) λU=>?_;refine bB λI a w U=>?_;refine U.q .F (.cl (yY ..)) λU=>?_;refine aF λI a w U=>?_;refine cz (λah=>?_) λah=>?_
  .refine bh ?_;exact bP (by rw[hd,mh ae];simp only[eb];rcases ah with h|h<;>simp[h])
  refine cI λI a w U=>?_;have U:=U.drop 0;exact U.ag (k+1,(ab l k).key) (by(rw[hd,mh ae];simp[eb,ah,aH];simp[aH] at ah;omega))
 refine zt ?_;refine bh ?_;exact bP (by rw[hd,List.drop_eq_nil_of_le om];rfl)
def Iu (v:aE):
 Fn prog 122 [v.av] (AV.bool (dL v)):=by
 refine Fn.go 54 func122 ntmps122 (λW I a U=>?_);have Ig:v.aQ.length<=9223372036854775807:=by
  obtain⟨cs,_,hc⟩:=U.env 0 _ rfl;obtain⟨u,_,hu,_⟩:=hc.get (i:=6) rfl;exact AX hu
 refine bB λI a w U=>?_;refine U.o (.c1 (Bw ..)) λU=>?_;refine bB λI a w U=>?_;refine U.q .F (.cl (yY ..)) λU=>?_;refine cj λI a w U=>?_;refine U.q .F (.cl (jq ..)) λU=>?_;refine cj λI a w U=>?_;refine U.q .F (.cl (Bx ..)) λU=>?_;refine cj λI a w U=>?_;refine U.q .F (.cl (jq ..)) λU=>?_;refine cj λI a w U=>?_;refine U.q .F (.cl (Bz ..)) λU=>?_;refine aF λI a w U=>?_;refine U.cd (λae=>?_) λae=>?_
 .rw[D4 v] at ae;replace ae:=nt ae;refine bh ?_;exact bP (by rw[yT,ae];rfl)
 rw[D4 v] at ae;replace ae:=nf ae;refine aZ λI a w U=>?_;refine St.lo (σ:=Nat) (2::(4::(run 12 42 []))) ⟨λk=>[(42,AV.int k)],λk=>[],λk=>k<=v.aQ.length/\∀i,i<k->(λi=>decide ((ab v.aQ i).aq.time<v.aq.time)) i=true⟩ (λk=>v.aQ.length-k) 0 U ?aJ ?bF;case aJ=>exact⟨by simp,λi hi=>by omega⟩
 rintro k I a w an U;obtain⟨hk,aT⟩:=an;have hle:v.aQ.length<=9223372036854775807:=Ig;refine aB λI a w U=>?_;refine cz (λah=>?_) λah=>?_
 .refine aG λI a w U=>?_;refine U.alloc rfl cV gK λb4 I a w U=>?_;refine aB λI a w U=>?_;obtain⟨I,U⟩:=U.fb 0 4;refine jD λI a w U=>?_;refine U.cd (λar=>?_) λar=>?_
  .rw[D3] at ar;replace ar:=nt ar;refine bh ?_;exact bP (by rw[yT,ae];exact(fY (f:=(λi=>decide ((ab v.aQ i).aq.time<v.aq.time))) ah ar).symm)
  rw[D3] at ar;replace ar:=nf ar;refine aF λI a w U=>?_;have U:=U.drop 0;exact U.ag (k+1) (⟨by omega,gI aT ar⟩)
 refine zt ?_;refine bh ?_;exact bP (by rw[yT,ae];exact(fP aT om).symm)
def BA (n:Int):
 Fn prog 96 [AV.int n] (AV.bool (aH n 10 11)):=by
 refine Fn.go 5 func96 ntmps96 (λW I a U=>?_);refine aG λI a w U=>?_;refine U.o (.cl (jE ..)) λU=>?_;refine bh ?_;rfl
def ZD {n:Int} (h:kv n):fF (IntKind.i64.wrap (n-10))=fF (n-10):=by
 obtain⟨h1,h2⟩:=h;by_cases h3:-9223372036854775808<=n-10
 .rw[IntWalk.i64_in _ ⟨h3,by omega⟩]
 have e:IntKind.i64.wrap (n-10)=n-10+18446744073709551616:=by
  simp only[IntKind.wrap];simp[IntKind.signed,IntKind.bits];omega
 rw[e];simp only[fF,aH];rw[Bool.eq_iff_iff];simp;omega
def Iv (n:Int):
 Fn prog 165 [AV.int n] (AV.int (cL n)):=by
 refine Fn.go 9 func165 ntmps165 (λW I a U=>?_);refine aG λI a w U=>?_;refine U.o (.c1 (Bw ..)) λU=>?_;refine aB λI a w U=>?_;refine cz (λae=>?_) λae=>?_
 .refine bh ?_;exact fW (by simp[cL,ae])
 refine bK λI a w U=>?_;refine U.o (lP .tt .c (λ_=>by simp[c7,aH] at ae;omega)) λU=>?_;refine U.o (yy .tt .c (λ_=>by simp[c7,aH] at ae;omega)) λU=>?_;refine bh ?_;exact fW (by simp[cL,ae])
def ZE {α:Type} (p:α->Bool) (l:List α):df p l<(l.length:Int)\/df p l=-1:=by
 unfold df;split
 .rename_i k h;have:=(List.findIdx?_eq_some_iff_getElem.1 h).1;left;omega
 right;rfl
def hasB {α:Type} (p:α->Bool) (l:List α):Bool:=decide (0<=df p l)
def Iw {α:Type} [Inhabited α] {p:α->Bool} {l:List α} (h:0<=df p l):∃k,k<l.length/\p (ab l k)=true:=by
 unfold df at h;split at h
 .rename_i k hk;obtain⟨h1,h2,_⟩:=List.findIdx?_eq_some_iff_getElem.1 hk;exact⟨k,h1,by simpa[ab,h1] using h2⟩
 omega
def BB {α:Type} [Inhabited α] {p:α->Bool} {l:List α} (h:df p l<0):∀k,k<l.length->p (ab l k)=false:=by
 unfold df at h;split at h
 .omega
 rename_i hn;rw[List.findIdx?_eq_none_iff] at hn;intro k hk;have:=hn (ab l k) (by unfold ab;rw[List.getD_eq_getElem?_getD,List.getElem?_eq_getElem hk];exact List.getElem_mem _);exact this
def missing (l:List aE) (d:au):Bool:=decide (placeOf l d<0)
def yZ (l:List aE) (ds:List au):Bool:=!hasB (missing l) ds
def Ix (s:Server) (v:aE):
 Fn prog 109 [s.av,v.av] (AV.bool (bM v.aq.site !=bM s.site)):=by
 refine Fn.go 13 func109 ntmps109 (λW I a U=>?_);refine aR λI a w U=>?_;refine U.dk ?_;refine dD ?_;refine .o (.c1 (By ..)) ?_;refine cB ?_;refine .o (.c1 (By ..)) ?_;refine cB ?_;refine .nil ?_;intro I a w U;refine zt ?_;refine U.rt ?_;rfl
def lK (d:au):Bool:=c7 d.key&&di d.aq
def ZF (d:au):bU [d]=lK d:=by simp[bU,eb,lK,c7]
def Iy:∀{l:List au} {last:Int},eb last l=true->∀d∈l,last<d.key/\d.key<=5/\di d.aq=true
 |[],_,_,d,hd=>by simp at hd
 |e::r,last,h,d,hd=>by
  simp only[eb,Bool.and_eq_true,aH,decide_eq_true_eq] at h;rcases List.mem_cons.1 hd with rfl|hd
  .exact⟨by omega,h.1.1.2,h.1.2⟩
  have:=Iy h.2 d hd;exact⟨by omega,this.2⟩
def gm {α:Type} [Inhabited α] {l:List α} {x:α} (h:x∈l):∃k,k<l.length/\ab l k=x:=by
 obtain⟨k,hk,rfl⟩:=List.getElem_of_mem h;exact⟨k,hk,by simp[ab,hk]⟩
def pK {l:List au} (h:bU l=true) {d:au} (hd:d∈l):lK d=true:=by
 have:=Iy h d hd;simp[lK,c7,aH,this.2.2];omega
def iu (c:Call):Bool:=lj c.keys&&((c.kind==1&&((c.keys.length:Int)==1))||(c.kind==2&&aH c.keys.length 1 3))
def nW (a:Answer) (s:cx):Bool:=!a.yes||bV a.bl.aq s
def tT (key:Int) (a:Answer):Bool:=a.key==key
def cm (c:Call) (key:Int):Int:=df (tT key) c.aC
def vh (key:Int) (n:Int):Bool:=n==key
def ib (l:List Int) (key:Int):Bool:=hasB (vh key) l
def dT (a:Answer):Bool:=if a.yes then dL a.bl&&(a.bl.key==a.key) else mS a.bl sI
def gW (a b:Answer):Bool:=decide (a.key<b.key)
def pL (c:Call) (i:Nat):Bool:=fl (λa=>ib c.keys a.key) gW c.aC i&&dT (ab c.aC i)
def rk (c:Call) (i:Nat):Bool:=decide (0<=cm c (ab c.aL i).key)&&nW (ab c.aC (cm c (ab c.aL i).key).toNat) (ab c.aL i).aq
def pM (c:Call):Bool:=(c.aC.length:Int)==c.keys.length
def nX (c:Call):Bool:=de c.aC.length (pL c)
def pN (c:Call):Bool:=nX c&&de c.aL.length (rk c)&&(((c.aL.length:Int)==0)||pM c)
def mT (c:Call) (time:Int):Bool:=fF c.ao&&aH c.num 1 99&&iu c&&aH c.val 0 9999&&bU c.ctx&&bU c.aL&&aH c.bH 1 time&&lU c.aq&&pN c
def oP (c:Call) (time:Int):Bool:=if c.end_=0 then dS c.aq else !(c.over||!aH c.end_ (c.bH+1) time||decide (0<(c.aL.length:Int)))&&((c.kind==1&&!dS c.aq)||(!(c.kind==1)&&pM c))
def Iz (c:Call) (k:Nat):(!ib c.keys (ab c.aC k).key||(decide (0<(k:Int))&&decide ((ab c.aC k).key<=(ab c.aC ((k:Int)-1).toNat).key)))=!fl (λa=>ib c.keys a.key) gW c.aC k:=by
 rw[<-uW];have e:decide ((ab c.aC k).key<=(ab c.aC ((k:Int)-1).toNat).key)=!gW (ab c.aC ((k:Int)-1).toNat) (ab c.aC k):=by rw[Bool.eq_iff_iff];simp[gW]
 rw[e]
def Pn (a:Answer):((a.yes&&(!dL a.bl||(a.bl.key !=a.key)))||(!a.yes&&!mS a.bl sI))=!dT a:=by
 unfold dT;cases a.yes<;>simp[bne]
def Po (c:Call) (k:Nat):(decide (cm c (ab c.aL k).key<0)||!nW (ab c.aC (cm c (ab c.aL k).key).toNat) (ab c.aL k).aq)=!rk c k:=by
 unfold rk;have e:decide (cm c (ab c.aL k).key<0)=!decide (0<=cm c (ab c.aL k).key):=by rw[Bool.eq_iff_iff];simp
 rw[e];simp
def Pp (c:Call) (time:Int):(!fF c.ao||!aH c.num 1 99||!iu c||!aH c.val 0 9999||!bU c.ctx||!bU c.aL||!aH c.bH 1 time||!lU c.aq||!pN c)=!mT c time:=by simp[mT]
def vi (c:Call) (i:Nat):Bool:=w6 (ab c.aC i)&&fl (λa=>ib c.keys a.key) gW c.aC i
def vj (c:Call) (i:Nat):Bool:=decide (0<=cm c (ab c.aL i).key)&&bV (ab c.aC (cm c (ab c.aL i).key).toNat).bl.aq (ab c.aL i).aq
def Ec {α:Type} [Inhabited α] {p:α->Bool} {l:List α} {x:α} (h:x∈l) (hp:p x=true):hasB p l=true:=by
 simp only[hasB,decide_eq_true_eq];rcases Int.lt_or_le (df p l) 0 with hn|hn
 .obtain⟨k,hk,rfl⟩:=gm h;rw[BB hn k hk] at hp;cases hp
 exact hn
def y6 {l:List Int} (h:lj l=true) {n:Int} (hn:n∈l):c7 n=true:=by
 obtain⟨k,hk,rfl⟩:=gm hn;have:=(jm.1 h) k hk;unfold fl at this;rw[Bool.and_eq_true] at this;exact this.1
def IA {c:Call} (h:nX c=true) {i:Nat} (hi:i<c.aC.length):dT (ab c.aC i)=true/\ib c.keys (ab c.aC i).key=true:=by
 have:=(jm.1 h) i hi;unfold pL fl at this;simp only[Bool.and_eq_true] at this;exact⟨this.2,this.1.1⟩
def vm {c:Call} {key:Int} (h:0<=cm c key):(cm c key).toNat<c.aC.length:=by
 have:=ZE (tT key) c.aC;unfold cm at*;omega
def rl {s:cx} (h:di s=true):1<=s.time:=by simp[di,aH] at h;omega
def gn:cx:=⟨0,0⟩
def Pq {s:cx} (h:1<=s.time):bV gn s=true:=by
 obtain⟨t,u⟩:=s;have h:(1:Int)<=t:=h;have e:decide ((0:Int)<t)=true:=decide_eq_true om;show(decide ((0:Int)<t)||_)=true;rw[e];rfl
def Pr {s:cx} (h:1<=s.time):bV s gn=false:=by
 obtain⟨t,u⟩:=s;have h:(1:Int)<=t:=h;show(decide (t<(0:Int))||((t==(0:Int))&&decide (u<(0:Int))))=false;have e:decide (t<(0:Int))=false:=decide_eq_false om;have e2:(t==(0:Int))=false:=by simp;omega
 rw[e,e2];rfl
def Ps {a:Answer} {s:cx} (h:dT a=true) (U:di s=true):nW a s=bV a.bl.aq s:=by
 unfold dT at h;unfold nW;cases hy:a.yes
 .rw[hy] at h;simp[mS] at h;have:=rl U;rw[h,show bV sI.aq s=true from Pq this];rfl
 simp
def Ed {f:Answer->Int}:∀{ks:List Int} {l:List Answer},ks.Pairwise (·<·)->(l.map f).Pairwise (·<·)->(∀a∈l,f a∈ks)->l.length<=ks.length
 |[],[],_,_,_=>Nat.le_refl _
 |[],a::l,_,_,h=>by have:=h a bk;simp at this
 |y::ks,[],_,_,_=>by simp
 |y::ks,a::l,hk,hl,h=>by
  rw[List.pairwise_cons] at hk;rw[List.map_cons,List.pairwise_cons] at hl;by_cases Pt:f a=y
  .have:l.length<=ks.length:=Ed hk.2 hl.2 λb hb=>by
    have h1:=h b (by simp[hb]);have h2:=hl.1 (f b) (List.mem_map.2 ⟨b,hb,rfl⟩);rcases List.mem_cons.1 h1 with h3|h3
    .omega
    exact h3
   simp;omega
  have OH:y<f a:=by
   rcases List.mem_cons.1 (h a bk) with h3|h3
   .exact absurd h3 Pt
   exact hk.1 _ h3
  have:(a::l).length<=ks.length:=Ed hk.2 (by rw[List.map_cons,List.pairwise_cons];exact hl) λb hb=>by
   have h1:=h b hb;rcases List.mem_cons.1 h1 with h3|h3
   .rcases List.mem_cons.1 hb with rfl|hb
    .exact absurd h3 Pt
    have h2:=hl.1 (f b) (List.mem_map.2 ⟨b,hb,rfl⟩);omega
   exact h3
  simp at this⊢;omega
def Pu (c:Call):(aH c.kind 1 2&&w7 c)=iu c:=by
 unfold w7 iu;cases lj c.keys
 .simp
 rw[Bool.eq_iff_iff];simp[aH];omega
def tU (s:cx):Prop:=s=gn\/di s=true
def rm {a:Answer} (h:dT a=true) (hy:a.yes=true):dL a.bl=true/\a.bl.key=a.key:=by
 unfold dT at h;rw[hy] at h;simpa using h
def y7 {a:Answer} (h:dT a=true) (hy:a.yes=false):a.bl=sI:=by
 unfold dT at h;rw[hy] at h;simpa[mS] using h
def y8 (x:Int) (d:Call):Bool:=d.ao==x
def kG (l:List Call) (i:Nat) (x:Int):Int:=df (y8 x) (l.drop (i+1))
def vn (w:aj) (i:Nat):List au:=if 0<=kG w.calls i (ab w.calls i).ao then(ab w.calls (i+1+(kG w.calls i (ab w.calls i).ao).toNat)).ctx else ab w.seen (ab w.calls i).ao.toNat
def y9 {l:List aE} {d:au} (hc:cg l=true):(kz l d).isSome=decide (0<=placeOf l d):=by
 unfold kz;by_cases h:0<=placeOf l d
 .rw[if_pos ⟨hc,h⟩];simp[h]
 rw[if_neg (by simp[h])];simp[h]
def pO (v:aE) (h:v.aQ.length<=1048576):
 Fn prog 136 [v.av] (v.av):=by
 refine Fn.go 9 func136 ntmps136 (λW I a U=>?_);refine sr<|U.box rfl .tt λb1 I a w U=>U.alloc rfl bQ dO λb2 I a w U=>?_;refine zt ?_;refine U.l0 λb3 I a w U=>?_;refine aG λI a w U=>?_;refine U.ap 2 λv6 a w U=>?_;obtain⟨I,U⟩:=U.fr 2 6;refine aZ λI a w U=>?_;refine U.ret rfl (.cons (.sx 1) aW.nil) ?_;rfl
def xe (s:Server) (i:Nat):Bool:=!((decide (0<=placeOf s.ai (ab s.waits i).aU))||(bM (ab s.waits i).aq.site==bM s.site))
def sM (s:Server) (i:Nat):Bool:=decide (0<=placeOf s.ai (ab s.aD i))
def ZG {n:Nat} {f g:Nat->Bool}:de n (λi=>f i&&g i)=(de n f&&de n g):=by
 rw[Bool.eq_iff_iff,Bool.and_eq_true,jm,jm,jm];exact⟨λh=>⟨λi hi=>(Bool.and_eq_true_iff.1 (h i hi)).1,λi hi=>(Bool.and_eq_true_iff.1 (h i hi)).2⟩,λh i hi=>Bool.and_eq_true_iff.2 ⟨h.1 i hi,h.2 i hi⟩⟩
def ZH (s:Server):yZ s.ai s.aD=de s.aD.length (sM s):=by
 unfold yZ hasB;by_cases h:0<=df (missing s.ai) s.aD
 .obtain⟨k,hk,hm⟩:=Iw h;have:sM s k=false:=by
   simp only[missing,decide_eq_true_eq] at hm;simp only[sM,decide_eq_false_iff_not];omega
  rw[fY hk this];simp[h]
 have aT:=BB (p:=missing s.ai) (l:=s.aD) om;have:de s.aD.length (sM s)=true:=by
  rw[jm];intro i hi;have:=aT i hi;simp only[missing,decide_eq_false_iff_not] at this;simp only[sM,decide_eq_true_eq];omega
 rw[this];simp[h]
def Pv (s:Server) (i:Nat) (hc:cg s.ai=true):((kz s.ai ⟨(ab s.waits i).key,(ab s.waits i).aq⟩).isSome||(bM (ab s.waits i).aq.site==bM s.site))=!xe s i:=by
 rw[y9 hc];show _=!!(_||_);rw[Bool.not_not];rfl
def Pw (s:Server) (i:Nat) (hc:cg s.ai=true):(!(kz s.ai ⟨(ab s.aD i).key,(ab s.aD i).aq⟩).isSome)=!sM s i:=by
 rw[y9 hc];simp[sM]
def pP {l:List aE} {d:au} (h:placeOf l d<0):∀x∈l,x.aU≠d:=λx hx he=>by
 obtain⟨k,hk,rfl⟩:=gm hx;have:=BB h k hk;simp[lY] at this;exact this he
def calm (s:Server):Bool:=s.up&&!decide (0<((s.waits.length:Int)+s.aD.length)+s.aV.length)&&!hasB (λx:cY=>x.bD==2) s.aw
def sN (x y:cY):Bool:=(x.bD==1)&&(y.bD !=1)&&decide (y.ba<=x.ba)&&((y.bD !=2)||(y.ba==x.ba))
def tV (x y:cY):Bool:=(x.bD==2)&&(y.bD !=1)&&decide (y.ba<x.ba)
def lr (a b:cY):Bool:=sN a b||sN b a||tV a b||tV b a
def lL (s:Server) (slot:Int):Bool:=s.up&&aH slot 0 2&&((ab s.aw slot.toNat).bD==1)&&decide ((ab s.aw slot.toNat).ba<9999)
def xf:Call:=⟨0,0,0,[],0,[],0,0,false,⟨0,0⟩,[],[]⟩
def jr (q:Call) (m:ax):List ax:=[{m with aO:=10+q.ao,to:=2*q.ao,call:=q.num},{m with aO:=10+q.ao,to:=2*q.ao+1,call:=q.num}]
def lu (q:Call) (a:Answer) (time:Int):Call:=
 if a.bl.aU∈q.aL then
  let x:={q with aC:=q.aC.set (cm q a.key).toNat a,aL:=q.aL.filter λd=>decide (d≠a.bl.aU)}
  if x.aL=[] then{x with end_:=time} else x
 else q
def eo (al more:List ax):List ax:=al++more.take (60-al.length)
def tW (calls:List Call) (ao:Int):Int:=calls.foldl (λn q=>if q.ao=ao then q.num else n) 0
def cF {α:Type} {f:α->List AV} (l:List α) (x:α):l.map f++[f x]=(l++[x]).map f:=by simp
def tX (l:List au) (h:l.length<=1048576):
 Fn prog 104 [bE l] (bE l):=by
 refine Fn.go 5 func104 ntmps104 (λW I a U=>?_);refine aG λI a w U=>?_;have U:=U.hP (sz:=3) 115;refine U.append 0 rfl en cV rfl .c .r rfl gQ λv4 a w U=>?_;obtain⟨I,U⟩:=U.fr 0 4;refine bh ?_;rfl
def Px (x:Answer) (key:Int):
 Fn prog 229 [x.av,AV.ptr [AV.int key]] (AV.bool (tT key x)):=by
 refine Fn.go 8 func229 ntmps229 (λW I a U=>?_);refine jD λI a w U=>?_;refine U.rt ?_;rfl
def Py (q:Call):
 Fn prog 175 [q.av] (AV.bool (pM q)):=by
 refine Fn.go 10 func175 ntmps175 (λW I a U=>?_);refine wX λI a w U=>?_;refine U.rt ?_;rfl
def vo (u v:aE):Bool:=!((u.key !=v.key)||([u.aq.time,u.aq.site] !=[v.aq.time,v.aq.site])||(u.val !=v.val)||(u.ao !=v.ao)||(u.call !=v.call)||((u.aQ.length:Int) !=v.aQ.length))
def Ee (u v:aE) (i:Nat):Bool:=decide (ab u.aQ i=ab v.aQ i)
def Pz {α:Type} [Inhabited α] {l m:List α} (h:l.length=m.length) (he:∀i,i<l.length->ab l i=ab m i):l=m:=by
 apply List.ext_getElem h;intro i h1 h2;have:=he i h1;simpa[ab,h1,h2] using this
def IB (u v:aE):mS u v=(vo u v&&de u.aQ.length (Ee u v)):=by
 rw[Bool.eq_iff_iff,Bool.and_eq_true,jm];obtain⟨a1,⟨a2,a3⟩,a4,a5,a6,a7⟩:=u;obtain⟨b1,⟨b2,b3⟩,b4,b5,b6,b7⟩:=v;simp only[mS,vo,Ee,decide_eq_true_eq];constructor
 .intro h;simp at h;obtain⟨rfl,⟨rfl,rfl⟩,rfl,rfl,rfl,rfl⟩:=h;simp
 rintro⟨h1,h2⟩;simp at h1 h2;have:a7=b7:=Pz om h2;simp[this];omega
def ZI {q:Call} {time:Int} (h:mT q time=true):1<=q.bH/\q.bH<=time:=by
 simp only[mT,Bool.and_eq_true] at h;have:=h.1.1.2;simp[aH] at this;exact this
def PA (q:Call) (k:Nat):(!w6 (ab q.aC k)||!ib q.keys (ab q.aC k).key||(decide (0<(k:Int))&&decide ((ab q.aC k).key<=(ab q.aC ((k:Int)-1).toNat).key)))=!vi q k:=by
 unfold vi;rw[Bool.or_assoc,Iz];simp
def PB (q:Call) (k:Nat):(decide (cm q (ab q.aL k).key<0)||!bV (ab q.aC (cm q (ab q.aL k).key).toNat).bl.aq (ab q.aL k).aq)=!vj q k:=by
 unfold vj;have e:decide (cm q (ab q.aL k).key<0)=!decide (0<=cm q (ab q.aL k).key):=by rw[Bool.eq_iff_iff];simp
 rw[e];simp
def IC {u v:aE} (h:vo u v=true):u.aQ.length=v.aQ.length:=by
 simp only[vo,Bool.not_eq_true',Bool.or_eq_false_iff] at h;have:=h.2;simp at this;omega
def ZJ (n:Nat):decide ((n:Int)<=20)=decide (n<=20):=by rw[Bool.eq_iff_iff];simp;omega
def za {l:List Answer} (h:∀a∈l,dT a=true) (k:Nat):∀a∈l.take k,dT a=true:=λa ha=>h a (List.mem_of_mem_take ha)
def xg {q:Call} (h:iu q=true) (hk:q.kind=1):0<q.keys.length:=by
 unfold iu at h;rw[Bool.and_eq_true] at h;have:=h.2;simp[hk] at this;omega
def xh (v:aE) (h:v.aQ.length<=1048576):
 Fn prog 125 [v.av] (v.av):=by
 refine Fn.go 8 func125 ntmps125 (λW I a U=>?_);refine sr<|U.box rfl .tt λb1 I a w U=>U.alloc rfl bQ dO λb2 I a w U=>?_;refine aG λI a w U=>?_;refine U.o (.cl (tX v.aQ h)) λU=>?_;refine aZ λI a w U=>?_;refine U.ret rfl (.cons (.sx 1) aW.nil) ?_;rfl
def vp (l:List aE):Prop:=l.length<=1048576/\∀v∈l,v.aQ.length<=1048576
def kH (m:ax):Prop:=m.aQ.length<=1048576/\vp m.ai/\vp m.waits/\m.aD.length<=1048576
def sO (s:Server):Prop:=s.aw.length<=1048576/\vp s.ai/\vp s.waits/\s.aD.length<=1048576/\s.aV.length<=1048576
def PC {α:Type} [Inhabited α] {p:α->Bool} {l:List α} {k:Nat} (hk:l.length<=k) (h:∀i,i<k->p (ab l i)=false):l.find? p=none:=by
 rw[List.find?_eq_none];intro x hx;obtain⟨i,hi,rfl⟩:=gm hx;rw[h i om];simp
def pQ {m:ax} (h:bI m=true):0<=m.slot/\m.slot<3:=by
 simp only[bI,Bool.and_eq_true,aH,decide_eq_true_eq] at h;omega
def BC {l:List au} (h:bU l=true):∀d∈l,ka d=true:=λd hd=>pK h hd
def vq {s:Server} {slot:Int} (h:lL s slot=true):s.up=true/\0<=slot/\slot<=2/\(ab s.aw slot.toNat).bD=1/\(ab s.aw slot.toNat).ba<9999:=by
 unfold lL aH at h;simp only[Bool.and_eq_true,decide_eq_true_eq] at h;exact⟨h.1.1.1,h.1.1.2.1,h.1.1.2.2,by simpa using h.1.2,h.2⟩
def pR:cg []=true:=rfl
def BD {s:cx} (h:di s=true):lU s=true:=by unfold lU;rw[h];simp
def BE:lU ⟨0,0⟩=true:=rfl
def sP:bU []=true:=rfl
def sQ (c:Call) (d:au):Bool:=decide (0<=cm c d.key)&&nW (ab c.aC (cm c d.key).toNat) d.aq
def ZK {a b d:Answer} (h:gW a b=true) (h':gW b d=true):gW a d=true:=by
 unfold gW at*;rw[decide_eq_true_eq] at*;omega
def tY {q:Call} {key:Int} (h:0<=cm q key):(cm q key).toNat<q.aC.length/\(ab q.aC (cm q key).toNat).key=key:=by
 refine⟨vm h,?_⟩;unfold cm df at*;split at h
 .rename_i k hk;obtain⟨h1,h2,_⟩:=List.findIdx?_eq_some_iff_getElem.1 hk;simpa[ab,h1,tT] using h2
 omega
def PD {s:cx} (h:di s=true):dS s=false:=by
 have:=rl h;unfold dS;rw[Bool.and_eq_false_iff];left;simp;omega
def eO {α:Type} [Inhabited α] {l:List α} {i j:Nat} {x:α} (h:i<l.length):ab (l.set i x) j=if j=i then x else ab l j:=by
 unfold ab;simp only[List.getD_eq_getElem?_getD];rw[List.getElem?_set];by_cases e:i=j
 .subst e;simp[h]
 rw[if_neg e,if_neg λe'=>e e'.symm]
def ZL {al more:List ax} (h:al.length<=60):(eo al more).length<=60:=by
 unfold eo;rw[List.length_append,List.length_take];omega
def ZM {al more:List ax} (h:∀m∈al,bI m=true) (h':∀m∈more,bI m=true):∀m∈eo al more,bI m=true:=λm hm=>by
 unfold eo at hm;rcases List.mem_append.1 hm with hm|hm
 .exact h m hm
 exact h' m (List.mem_of_mem_take hm)
def PE (s:Server) (v:aE) (h1:cg s.ai=true) (h2:cg s.waits=true):(!(kz s.ai ⟨v.key,v.aq⟩).isSome&&!(kz s.waits ⟨v.key,v.aq⟩).isSome)=decide (placeOf s.ai v.aU<0/\placeOf s.waits v.aU<0):=by
 rw[y9 h1,y9 h2,Bool.eq_iff_iff];show _↔decide (placeOf s.ai ⟨v.key,v.aq⟩<0/\placeOf s.waits ⟨v.key,v.aq⟩<0)=true;simp
def Ef (s:Server) (m:ax):(!s.up||!bI m||(m.to !=s.site))=!(s.up&&bI m&&(m.to==s.site)):=by simp[bne]
def PF (s:Server) (slot:Int):(!s.up||!aH slot 0 2||((ab s.aw slot.toNat).bD !=1)||decide (9999<=(ab s.aw slot.toNat).ba))=!lL s slot:=by
 have e:decide (9999<=(ab s.aw slot.toNat).ba)=!decide ((ab s.aw slot.toNat).ba<9999):=by rw[Bool.eq_iff_iff];simp
 unfold lL;rw[e];simp[bne]
def PG {s:Server} {slot:Int} (he:aH slot 0 2=true->(ab s.aw slot.toNat).ba<=9999):(!s.up||!aH slot 0 2||((ab s.aw slot.toNat).bD !=1)||((ab s.aw slot.toNat).ba==9999))=!lL s slot:=by
 unfold lL;cases h:aH slot 0 2
 .simp
 have:=he h;have e:((ab s.aw slot.toNat).ba==9999)=!decide ((ab s.aw slot.toNat).ba<9999):=by rw[Bool.eq_iff_iff];simp;omega
 rw[e];simp[bne]
def xi (k t c:Int) (st:cx) (v:Int) (sl e:Int):kH ⟨k,0,0,c,t,st,v,false,[],sl,e,[],[],[]⟩:=⟨Nat.zero_le _,⟨Nat.zero_le _,λ_ h=>by cases h⟩,⟨Nat.zero_le _,λ_ h=>by cases h⟩,Nat.zero_le _⟩
def PH (x:Bool) (n:Int):(x&&!decide (0<=n))=(x&&decide (n<0)):=by
 have e:(!decide (0<=n))=decide (n<0):=by rw[Bool.eq_iff_iff];simp
 rw[e]
def PI {m:ax} (h1:m.aQ=[]) (h2:m.ai=[]) (h3:m.waits=[]) (h4:m.aD=[]):kH m:=by
 unfold kH;rw[h1,h2,h3,h4];simp[vp]
def aj.PJ (w:aj) (r:Value×Value×Value×Value):List Own:=[Own.row r.1 43 7 (w.aA.map Server.cells),Own.row r.2.1 84 15 (w.al.map ax.cells),Own.row r.2.2.1 53 13 (w.calls.map Call.cells),Own.row r.2.2.2 41 1 (w.seen.map fX)]
def pS (q:Call) (a:Answer) (k:Nat):List Answer:=if a.bl.aU∈q.aL.take k then q.aC.set (cm q a.key).toNat a else q.aC
def xj (al more:List ax):Nat->List ax
 |0=>al
 |k+1=>xj al more k++[ab more k]
def PK (al more:List ax):∀k,k<=more.length->xj al more k=al++more.take k
 |0,_=>by simp[xj]
 |k+1,h=>by
  show xj al more k++_=_;rw[PK al more k om,List.append_assoc,<-eT om]
def ZN {al more:List ax} {k:Nat} (hr:al.length<=60) (hk:k<=more.length) (eH:k<=60-al.length) (h:¬(k<more.length/\(al++more.take k).length<60)):al++more.take k=eo al more:=by
 unfold eo;have hl:(more.take k).length=k:=by simp;omega
 rw[List.length_append,hl] at h;congr 1;by_cases hm:k<more.length
 .have:k=60-al.length:=by omega
  rw[this]
 have:k=more.length:=by omega
 rw[this,List.take_length,List.take_of_length_le om]
def Eg (v:Value) (al more:List ax) (hr:al.length<=60):
 jC prog 138 [AV.val v,dR more] [Own.row v 84 15 (al.map ax.cells)] [] (dR (eo al more)):=by
 refine dr.intro 25 func138 rfl ntmps138 rfl aS (λW I a U=>?_);have hle:=U.eC (t:=1) rfl;refine aF λI a w U=>?_;refine St.lo (σ:=Nat×Value) (0::(run 19 5 [])) ⟨λ⟨k,u⟩=>[(5,AV.int k),(0,AV.val u)],λ⟨k,u⟩=>[Own.row u 84 15 ((xj al more k).map ax.cells)],λ⟨k,u⟩=>k<=more.length/\k<=60-al.length⟩ (λ⟨k,u⟩=>more.length-k) (0,v) U ?aJ ?bF;case aJ=>exact⟨Nat.zero_le _,Nat.zero_le _⟩
 rintro⟨k,u⟩ I a w an U;obtain⟨hk,eH⟩:=an;have bw:(more.take k).length=k:=by simp;omega
 have Eh:=PK al more k hk;dsimp only at U;refine ee λI a w U=>?_;refine U.q .T (sh 0 gf .ag rfl) λU=>?_;refine aF λI a w U=>?_;refine px (λae=>?_) λae=>?_
 .rw[List.length_map] at ae;rw[Eh] at ae;replace ae:k<more.length/\(al++more.take k).length<60:=⟨ae.1,by omega⟩;refine bm λI a w U=>?_;refine U.o ((by first|exact gS gf dI .tt .tt (λ_=>by exact ae.1)|exact ku gf dI .tt .tt (λ_=>by exact ae.1)|exact kS gf dI .tt .tt (λ_=>by exact ae.1))) λU=>?_;refine U.o .la λU=>?_;refine U.o (.li [(ab more k).cells] ir (.u .nil)) λU=>?_;refine U.append 0 rfl gf dI rfl .tt .r rfl (by rw[Eh];simp;omega) λEi a w U=>?_;rw[cF,show xj al more k++[ab more k]=xj al more (k+1) from rfl] at U;refine aZ λI a w U=>?_;exact U.ag (k+1,Ei) (⟨ae.1,by have:=ae.2;rw[List.length_append,bw] at this;omega⟩)
 replace ae:¬(k<more.length/\(al++more.take k).length<60):=λhh=>by rw[Eh] at ae;simp at ae;simp at hh;omega
 refine wp_exit<|cy<|cy<|fk<|bj<|wp_seq ?_;rw[Eh,ZN hr hk eH ae] at U;obtain⟨I,U⟩:=U.fr 0 0;refine aF λI a w U=>?_;refine U.dw () [] rfl (.cons (.t rfl) .nil) trivial rfl rfl
def Ej:Nat->List (List au)
 |0=>[]
 |k+1=>Ej k++[[]]
def PL:∀k,(Ej k).length=k
 |0=>rfl
 |k+1=>by show(Ej k++[[]]).length=_;rw[List.length_append,PL k];rfl
def ZO {al more:List ax} {k:Nat} (hk:k<more.length) (h:(eo al (more.take k)).length<60):eo al (more.take k)++[ab more k]=eo al (more.take (k+1)):=by
 unfold eo at h⊢;rw[List.length_append,List.length_take,List.length_take] at h;rw[List.take_of_length_le (l:=more.take k) (by rw[List.length_take];omega),List.take_of_length_le (l:=more.take (k+1)) (by rw[List.length_take];omega),eT hk,List.append_assoc]
def ZP {al more:List ax} {k:Nat} (hr:al.length<=60) (hk:k<more.length) (h:¬(eo al (more.take k)).length<60):eo al (more.take k)=eo al (more.take (k+1)):=by
 unfold eo at h⊢;rw[List.length_append,List.length_take,List.length_take] at h;rw[List.take_take,List.take_take,Nat.min_eq_left om,Nat.min_eq_left om]
def ZQ (al:List ax):eo al []=al:=by simp[eo]
def ZR (al more:List ax) (h:al.length<=60):(eo al more).length<=60:=by
 unfold eo;rw[List.length_append,List.length_take];omega
def aj.full (b:Nat) (x:aj) (s r q z:Value):List Own:=[Own.box b 28 [AV.int x.time,AV.val s,AV.val r,AV.val q,AV.val z],Own.row s 43 7 (x.aA.map Server.cells),Own.row r 84 15 (x.al.map ax.cells),Own.row q 53 13 (x.calls.map Call.cells),Own.row z 41 1 (x.seen.map fX)]
def ZS {x:aj} {e:Ev} (h:((ab x.aA e.at_.toNat).up==(e.kind==7))=false) (h7:e.kind=7):(ab x.aA e.at_.toNat).up=false:=by
 rw[h7] at h;simpa using h
structure dU where
 w:aj
 list:List Ev
 lv:Value
def ZT {bs:List UInt8} {n:Int} (h:(decide (n<1)||((bs.length:Int)==0))=false):¬(n<1\/bs.length=0):=by
 simp only[Bool.or_eq_false_iff,decide_eq_false_iff_not,beq_eq_false_iff_ne,ne_eq] at h;omega
def sv (w:aj) (i:Nat):Server:=ab w.aA i
def bL (i:Nat):Nat:=if i%2=0 then i+1 else i-1
def gX {i:Nat} (h:i<4):bL i<4:=by unfold bL;split<;>omega
def nv (i:Nat):bL i/2=i/2:=by unfold bL;split<;>omega
def Ek (i:Nat):bL i≠i:=by unfold bL;split<;>omega
def iv (i:Nat):bL (bL i)=i:=by unfold bL;split<;>split<;>omega
def ZU {i j:Nat} (h:j/2=i/2):j=i\/j=bL i:=by unfold bL;split<;>omega
def bn (w:aj) (σ:Nat) (v:aE):Prop:=∃i,i<4/\i/2=σ/\v∈(sv w i).ai
def mu (w:aj) (σ:Nat) (v:aE):Prop:=∃i,i<4/\i/2=σ/\(v∈(sv w i).ai\/v∈(sv w i).waits)
def ep (w:aj) (i k:Nat):Int:=(ab (sv w i).aw k).ba
def behind (s t:Server) (k:Nat):Prop:=(ab s.aw k).ba<(ab t.aw k).ba\/((ab s.aw k).ba=(ab t.aw k).ba/\(ab t.aw k).bD=1)
def xk (s:Server) (m:ax):Prop:=
 ab s.aw m.slot.toNat=⟨m.ba,2⟩/\(∀v,v∈m.ai↔v∈s.ai/\cL v.key=m.slot)/\(∀v,v∈m.waits↔v∈s.waits/\cL v.key=m.slot)/\∀d,d∈m.aD↔d∈s.aD/\cL d.key=m.slot
def bn.cont {w:aj} {σ:Nat} {v:aE} (h:bn w σ v):mu w σ v:=let⟨i,h1,h2,h3⟩:=h;⟨i,h1,h2,.inl h3⟩
def bn.here {w:aj} {i:Nat} {v:aE} (hi:i<4) (h:v∈(sv w i).ai):bn w (i/2) v:=⟨i,hi,rfl,h⟩
def bn.cases {w:aj} {i:Nat} {v:aE} (h:bn w (i/2) v):v∈(sv w i).ai\/v∈(sv w (bL i)).ai:=by
 obtain⟨j,_,e,hv⟩:=h;rcases ZU e with rfl|rfl
 .exact .inl hv
 exact .inr hv
def BF {m:ax} (h:bI m=true):m.slot.toNat<3:=by have:=pQ h;omega
def ID {x y:cY} (h:lr x y=true) (hx:x.bD=1):y.bD≠1/\y.ba<=x.ba:=by
 unfold lr sN tV at h;simp only[Bool.or_eq_true,Bool.and_eq_true,beq_iff_eq,bne_iff_ne,decide_eq_true_eq] at h;omega
def PM {s t:Server} {k:Nat} (h:lr (ab s.aw k) (ab t.aw k)=true) (U:(ab s.aw k).bD=1):¬behind s t k:=by
 have:=ID h U;unfold behind;omega
def PN {s t:Server} {k:Nat} (h:lr (ab s.aw k) (ab t.aw k)=true) (U:(ab s.aw k).bD=1):behind t s k:=by
 have:=ID h U;unfold behind;omega
def ZV {s t:Server} {k:Nat} (h:lr (ab s.aw k) (ab t.aw k)=true):behind s t k\/behind t s k:=by
 unfold lr sN tV at h;simp only[Bool.or_eq_true,Bool.and_eq_true,beq_iff_eq,bne_iff_ne,decide_eq_true_eq] at h;unfold behind;omega
def IE {s t:Server} {k:Nat} (h:lr (ab s.aw k) (ab t.aw k)=true) (hb:behind s t k):¬behind t s k:=by
 unfold lr sN tV at h;simp only[Bool.or_eq_true,Bool.and_eq_true,beq_iff_eq,bne_iff_ne,decide_eq_true_eq] at h;unfold behind at*;omega
def ZW {s t x y:Server} {k:Nat} (e:s.aw=t.aw) (e':x.aw=y.aw):behind s x k↔behind t y k:=by unfold behind;rw[e,e']
def PO {l:List Call} {i:Nat} {x:Int} (h:0<=kG l i x):i+1+(kG l i x).toNat<l.length/\(ab l (i+1+(kG l i x).toNat)).ao=x:=by
 unfold kG df at*;split at h
 .rename_i k hk;obtain⟨h1,h2,_⟩:=List.findIdx?_eq_some_iff_getElem.1 hk;rw[List.length_drop] at h1;rw[List.getElem_drop] at h2;refine⟨by rw[Int.toNat_natCast];omega,?_⟩;have e:l[i+1+k]=ab l (i+1+k):=by simp[ab,show i+1+k<l.length by omega]
  rw[e] at h2;rw[Int.toNat_natCast];simpa[y8] using h2
 omega
def IF {l:List Call} {i:Nat} {x:Int} (h:∀j,i<j->j<l.length->(ab l j).ao≠x):kG l i x<0:=by
 rcases Int.lt_or_le (kG l i x) 0 with h0|h0
 .exact h0
 obtain⟨h1,h2⟩:=PO h0;exact absurd h2 (h _ om h1)
def BG (w:aj):Prop:=∀σ v,bn w σ v->v.aq.time=1\/∃τ u,bn w τ u/\u.aq.time=v.aq.time-1
def El {r l:List ax} (h:r.length+l.length<=60):eo r l=r++l:=by
 unfold eo;rw[List.take_of_length_le om]
def Em {f:aj->Nat->aj} {n:Int} (hf:∀x i,(f x i).time<=x.time+n):∀(l:List Nat) (x:aj),(l.foldl f x).time<=x.time+n*(l.length:Nat)
 |[],x=>by simp
 |i::r,x=>by
  have h1:=Em hf r (f x i);have h2:=hf x i;have h3:n*((r.length+1:Nat):Int)=n*(r.length:Nat)+n:=by rw[Int.natCast_add,Int.mul_add];simp
  rw[List.foldl_cons,List.length_cons];omega
def BH {l:List cY} {i:Nat} {x:cY} (k:Nat):ab (l.set i x) k=ab l k\/ab (l.set i x) k=x:=by
 rcases Nat.lt_or_ge i l.length with hi|hi
 .rw[eO hi];split
  .exact .inr rfl
  exact .inl rfl
 rw[List.set_eq_of_length_le hi];exact .inl rfl
def IG {α β:Type} {f:α->List β} {n:Nat} (h:∀x,(f x).length<=n):∀l:List α,((l.map f).flatten).length<=n*l.length
 |[]=>by simp
 |x::r=>by
  have:=IG h r;have:=h x;rw[List.map_cons,List.flatten_cons,List.length_append,List.length_cons,Nat.mul_succ];omega
def Rest (w:aj):Prop:=∀i,i<4->∀k,k<3->(ab (sv w i).aw k).bD≠2
def IH {a b:cY} (h:lr a b=true) (ha:a.bD≠2) (hb:b.bD≠2):(a.bD=1/\b.bD≠1)\/(b.bD=1/\a.bD≠1):=by
 simp only[lr,sN,tV,Bool.or_eq_true,Bool.and_eq_true,beq_iff_eq,bne_iff_ne] at h;rcases h with((h|h)|h)|h
 .exact .inl ⟨h.1.1.1,h.1.1.2⟩
 .exact .inr ⟨h.1.1.1,h.1.1.2⟩
 .exact absurd h.1.1 ha
 exact absurd h.1.1 hb
def xl (w:aj):Prop:=∀i,i<4->(sv w i).aD=[]
end Go.Proofs.YtdanidpleofjgaaGreat
