/- Part 14: contracts of functions, plain facts. -/
import Derived.Test.YtdanidpleofjgaaGreatP09
set_option linter.all false
set_option maxRecDepth 100000
set_option maxHeartbeats 4000000
namespace Go.Proofs.YtdanidpleofjgaaGreat
open Go Go.RowKit Tryz
attribute [local irreducible] wpList Code.wp Ok
def Ql (s:cx):
 Fn prog 98 [s.av] (AV.bool (lU s)):=by
 refine Fn.go 10 func98 ntmps98 (λW I a U=>?_);refine bm λI a w U=>?_;refine U.o (.bd ke bc.nil) λU=>?_;refine U.o (nj [_,_] [_,_] nU rfl rfl .tt .tt) λU=>?_;refine aG λI a w U=>?_;refine U.q .F (.cl (w5 ..)) λU=>?_;refine dG ?_;exact bP (by simp[lU,dS])
def oa (v:aE):
 Fn prog 111 [v.av] (v.aU.av):=by
 refine Fn.go 8 func111 ntmps111 (λW I a U=>?_);refine bK λI a w U=>?_;refine U.alloc rfl cV gK λb2 I a w U=>?_;refine bB λI a w U=>?_;refine U.o (.bd gK (.k (.t bc.nil))) λU=>?_;refine aB λI a w U=>?_;refine U.ret rfl (.cons (.sx 0) aW.nil) ?_;rfl
def vz (n:Int):
 Fn prog 193 [AV.int n] (AV.int (cL n)):=by
 refine Fn.go 9 func193 ntmps193 (λW I a U=>?_);refine aG λI a w U=>?_;refine U.o (.c1 (vf ..)) λU=>?_;refine aB λI a w U=>?_;refine cz (λae=>?_) λae=>?_
 .refine bh ?_;exact fW (by simp[cL,ae])
 refine bK λI a w U=>?_;refine U.o (lP .tt .c (λ_=>by simp[c7,aH] at ae;omega)) λU=>?_;refine U.o (yy .tt .c (λ_=>by simp[c7,aH] at ae;omega)) λU=>?_;refine bh ?_;exact fW (by simp[cL,ae])
def bf {α:Type} [Inhabited α] {l:List α} {k:Nat} (h:k<l.length):ab l k∈l:=by
 unfold ab;rw[List.getD_eq_getElem?_getD,List.getElem?_eq_getElem h];exact List.getElem_mem _
def my {α:Type} [Inhabited α] {p:α->Bool} {l:List α} {k:Nat} (hk:l.length<=k) (h:∀i,i<k->p (ab l i)=false):df p l=-1:=by
 have:l.findIdx? p=none:=by
  rw[List.findIdx?_eq_none_iff];intro x hx;obtain⟨i,hi,rfl⟩:=List.getElem_of_mem hx;have:=h i om;simpa[ab,hi] using this
 unfold df;rw[this]
def Ja (l:List (aE)) (p:(aE)->Bool) (fv:AV) (hf:∀x:aE,x∈l->kV prog fv [x.av] (AV.bool (p x))):
 Fn prog 167 [cn l,fv] (AV.int (df p l)):=by
 refine Fn.go 19 func167 ntmps167 (λW I a U=>?_);have hle:=U.eC (t:=0) rfl;refine aZ λI a w U=>?_;refine St.lo (σ:=Nat) (run 2 4 (run 11 8 [])) ⟨λk=>[(8,AV.int k)],λk=>[],λk=>k<=l.length/\∀i,i<k->p (ab l i)=false⟩ (λk=>l.length-k) 0 U ?aJ ?bF;case aJ=>exact⟨Nat.zero_le _,λi hi=>by omega⟩
 rintro k I a w an U;obtain⟨hk,aT⟩:=an;refine aB λI a w U=>?_;refine cz (λae=>?_) λae=>?_
 .refine gT λI a w U=>?_;refine U.o (uT (hf _ (bf ae)) .tt (az .tt aI)) λU=>?_;refine zt ?_;refine U.cd (λah=>?_) λah=>?_
  .refine dG ?_;exact fW (mQ ae aT ah).symm
  refine aF λI a w U=>?_;exact U.ag (k+1) (⟨ae,λi h1=>by rcases Nat.lt_succ_iff_lt_or_eq.1 h1 with h|h;exact aT i h;rw[h];exact ah⟩)
 refine zt ?_;refine bh ?_;exact fW (my om aT).symm
def aaG (l:List (au)) (p:(au)->Bool) (fv:AV) (hf:∀x:au,x∈l->kV prog fv [x.av] (AV.bool (p x))):
 Fn prog 209 [bE l,fv] (AV.int (df p l)):=by
 refine Fn.go 19 func209 ntmps209 (λW I a U=>?_);have hle:=U.eC (t:=0) rfl;refine aZ λI a w U=>?_;refine St.lo (σ:=Nat) (run 2 4 (run 11 8 [])) ⟨λk=>[(8,AV.int k)],λk=>[],λk=>k<=l.length/\∀i,i<k->p (ab l i)=false⟩ (λk=>l.length-k) 0 U ?aJ ?bF;case aJ=>exact⟨Nat.zero_le _,λi hi=>by omega⟩
 rintro k I a w an U;obtain⟨hk,aT⟩:=an;refine aB λI a w U=>?_;refine cz (λae=>?_) λae=>?_
 .refine gT λI a w U=>?_;refine U.o (uT (hf _ (bf ae)) .tt (az .tt aI)) λU=>?_;refine zt ?_;refine U.cd (λah=>?_) λah=>?_
  .refine dG ?_;exact fW (mQ ae aT ah).symm
  refine aF λI a w U=>?_;exact U.ag (k+1) (⟨ae,λi h1=>by rcases Nat.lt_succ_iff_lt_or_eq.1 h1 with h|h;exact aT i h;rw[h];exact ah⟩)
 refine zt ?_;refine bh ?_;exact fW (my om aT).symm
def Qm (l:List (Answer)) (p:(Answer)->Bool) (fv:AV) (hf:∀x:Answer,x∈l->kV prog fv [x.av] (AV.bool (p x))):
 Fn prog 228 [sw l,fv] (AV.int (df p l)):=by
 refine Fn.go 19 func228 ntmps228 (λW I a U=>?_);have hle:=U.eC (t:=0) rfl;refine aZ λI a w U=>?_;refine St.lo (σ:=Nat) (run 2 4 (run 11 8 [])) ⟨λk=>[(8,AV.int k)],λk=>[],λk=>k<=l.length/\∀i,i<k->p (ab l i)=false⟩ (λk=>l.length-k) 0 U ?aJ ?bF;case aJ=>exact⟨Nat.zero_le _,λi hi=>by omega⟩
 rintro k I a w an U;obtain⟨hk,aT⟩:=an;refine aB λI a w U=>?_;refine cz (λae=>?_) λae=>?_
 .refine gT λI a w U=>?_;refine U.o (uT (hf _ (bf ae)) .tt (az .tt aI)) λU=>?_;refine zt ?_;refine U.cd (λah=>?_) λah=>?_
  .refine dG ?_;exact fW (mQ ae aT ah).symm
  refine aF λI a w U=>?_;exact U.ag (k+1) (⟨ae,λi h1=>by rcases Nat.lt_succ_iff_lt_or_eq.1 h1 with h|h;exact aT i h;rw[h];exact ah⟩)
 refine zt ?_;refine bh ?_;exact fW (my om aT).symm
def vA {l:List aE} (h:cg l=true) {k:Nat} (hk:k<l.length):dL (ab l k)=true:=by
 unfold cg at h;rw[Bool.and_eq_true,jm] at h;have:=h.2 k hk;unfold fl at this;rw[Bool.and_eq_true] at this;exact this.1
def gq:List au->au->List au
 |[],d=>[d]
 |e::r,d=>if e.key=d.key then(if bV e.aq d.aq then d else e)::r else if d.key<e.key then d::e::r else e::gq r d
def iV (a b:List au):List au:=b.foldl gq a
def Qn:∀{l:List au} {last:Int} {d:au},eb last l=true->aH d.key (last+1) 5=true->di d.aq=true->eb last (gq l d)=true
 |[],last,d,_,h,U=>by simp[gq,eb,h,U]
 |e::r,last,d,hl,h,U=>by
  simp only[eb,Bool.and_eq_true] at hl;obtain⟨⟨h1,h2⟩,h3⟩:=hl;unfold gq;split
  .rename_i hk;split
   .simp only[eb,Bool.and_eq_true];exact⟨⟨h,U⟩,hk▸h3⟩
   simp only[eb,Bool.and_eq_true];exact⟨⟨h1,h2⟩,h3⟩
  rename_i hk;split
  .rename_i bw;simp only[eb,Bool.and_eq_true];refine⟨⟨h,U⟩,⟨?_,h2⟩,h3⟩;simp[aH] at h1⊢;omega
  rename_i bw;simp only[eb,Bool.and_eq_true];refine⟨⟨h1,h2⟩,Qn h3 ?_ U⟩;simp[aH] at h⊢;omega
structure lB (l:List au) (d:au) (k:Nat) (done:Bool) (out:List au):Prop where
 hk:k<=l.length
 eq:gq l d=if done then out++l.drop k else out++gq (l.drop k) d
 late:done=true->∀i,k<=i->i<l.length->d.key<(ab l i).key
 len:out.length<=k+done.toNat
def lB.zero (l:List au) (d:au):lB l d 0 false []:=⟨Nat.zero_le _,by simp,(λh=>by cases h),by simp⟩
def zl (c:Call):Bool:=!((c.kind==1&&decide (0<(c.aC.length:Int)+c.aL.length))||(!(c.kind==1)&&((c.val !=0)||!dS c.aq)))
def Qo {α:Type} [Inhabited α] {f:α->Int} {l:List α} (h:∀i,0<i->i<l.length->f (ab l (i-1))<f (ab l i)):(l.map f).Pairwise (·<·):=by
 rw[List.pairwise_iff_getElem];intro i j hi hj j9;simp only[List.length_map] at hi hj;simp only[List.getElem_map];have e:∀k (hk:k<l.length),l[k]=ab l k:=λk hk=>by simp[ab,hk]
 rw[e i hi,e j hj];obtain⟨n,rfl⟩:∃n,j=i+1+n:=⟨j-(i+1),by omega⟩;clear j9;induction n with
 |zero=>have:=h (i+1) om hj;simpa using this
 |succ n ih=>
  have h1:=ih om
  have h2:=h (i+1+(n+1)) om hj
  rw[show i+1+(n+1)-1=i+1+n from by omega] at h2
  omega
def Qp {l:List Int} (h:lj l=true):l.Pairwise (·<·):=by
 have:=Qo (f:=λn:Int=>n) (l:=l) λi h0 hi=>by
  have:=(jm.1 h) i hi;unfold fl at this;simp[mR] at this;have h1:=this.2;omega
 simpa using this
def zm (c:Call):Bool:=!(((c.kind==1)&&decide (0<(c.aC.length:Int)+c.aL.length))||((c.kind==2)&&(decide (0<c.val)||!dS c.aq))||!lU c.aq||decide ((c.keys.length:Int)<c.aC.length))
def EJ (c:Call):Bool:=!(decide (0<(c.aL.length:Int))&&decide ((c.aC.length:Int)<c.keys.length))
def Qq (n m:Nat):((n:Int)==m)=decide (n=m):=by
 rw[Bool.eq_iff_iff];simp;omega
def aaH {n m:Nat} (h:n<=m):decide ((n:Int)<m)=!decide (n=m):=by
 rw[Bool.eq_iff_iff];simp;omega
def mz (d k:Call):Bool:=(d.ao==k.ao)&&!d.over&&((d.end_==0)||decide (k.bH<=d.end_))
def gH (l:List Call) (k:Nat) (x:Int):Int:=(((l.take k).filter λd=>d.ao==x).length:Nat)
def Jb (l:List Call):gH l 0=λ_=>0:=by funext x;simp[gH]
def sV {l:List Call} {k:Nat} (h:k<l.length) (x:Int):gH l (k+1) x=if(ab l k).ao=x then gH l k x+1 else gH l k x:=by
 unfold gH;rw[eT h,List.filter_append,List.length_append];by_cases hx:(ab l k).ao=x<;>simp[hx]
def aaI {l:List Call} {k:Nat} (h:k<l.length):(λy=>if y=(ab l k).ao then gH l k (ab l k).ao+1 else gH l k y)=gH l (k+1):=by
 funext y;rw[sV h];by_cases hy:y=(ab l k).ao
 .subst hy;simp
 rw[if_neg hy,if_neg λh=>hy h.symm]
def EK (l:List Call) (k:Nat) (x:Int):0<=gH l k x/\gH l k x<=k:=by
 unfold gH;have:=List.length_filter_le (λd:Call=>d.ao==x) (l.take k);have h2:(l.take k).length<=k:=by simp;omega
 omega
def iW {v:aE} (h:dL v=true):c7 v.key=true/\di v.aq=true/\bU v.aQ=true:=by
 simp only[dL,Bool.and_eq_true] at h;exact⟨h.1.1.1.1.1.1,h.1.1.1.1.1.2,h.1.2⟩
def aaJ {v:aE} (h:dL v=true):v.aQ.length<=6:=by
 simp only[dL,Bool.and_eq_true] at h;exact Ze h.1.2
def EL (key:Int) (st:cx) (v:aE):((v.key==key)&&([v.aq.time,v.aq.site]==[st.time,st.site]))=lY ⟨key,st⟩ v:=by
 obtain⟨t,s⟩:=st;obtain⟨vk,⟨vt,vs⟩,_,_,_,_⟩:=v;rw[Bool.eq_iff_iff];simp[lY,aE.aU]
def aaK {l:List aE} {d:au} {k:Nat} (hk:l.length<=k) (h:∀i,i<k->lY d (ab l i)=false):kz l d=none:=by
 have e:placeOf l d=-1:=my hk h;unfold kz;rw[e,if_neg om]
def aaL {l:List aE} {d:au} (h:cg l=false):kz l d=none:=by
 unfold kz;rw[if_neg (by rw[h];simp)]
def rB:List aE->aE->List aE
 |[],v=>[v]
 |x::r,v=>if fG v x then v::x::r else x::rB r v
def EM {a b:au} (h:eD a b=false) (h':eD b a=false):a=b:=by
 obtain⟨k,⟨t,s⟩⟩:=a;obtain⟨k',⟨t',s'⟩⟩:=b;simp[eD,bV] at h h';simp;omega
def aaM {a b:au} (h:eD a b=true):eD b a=false:=by
 obtain⟨k,⟨t,s⟩⟩:=a;obtain⟨k',⟨t',s'⟩⟩:=b;simp[eD,bV] at h⊢;omega
def xB (a:au):eD a a=false:=by simp[eD,bV]
def Qr {α:Type} [Inhabited α] {R:α->α->Prop} (tr:∀{a b d},R a b->R b d->R a d) {l:List α} (h:∀i,0<i->i<l.length->R (ab l (i-1)) (ab l i)):l.Pairwise R:=by
 rw[List.pairwise_iff_getElem];intro i j hi hj j9;have e:∀k (hk:k<l.length),l[k]=ab l k:=λk hk=>by simp[ab,hk]
 rw[e i hi,e j hj];obtain⟨n,rfl⟩:∃n,j=i+1+n:=⟨j-(i+1),by omega⟩;clear j9;induction n with
 |zero=>have:=h (i+1) om hj;simpa using this
 |succ n ih=>
  have h1:=ih om
  have h2:=h (i+1+(n+1)) om hj
  rw[show i+1+(n+1)-1=i+1+n from by omega] at h2
  exact tr h1 h2
def g0 {l:List aE} (h:cg l=true):l.length<=80:=by
 unfold cg at h;rw[Bool.and_eq_true,decide_eq_true_eq] at h;exact h.1
def eE (l:List aE) (d:au):Option aE:=if 0<=placeOf l d then some (ab l (placeOf l d).toNat) else none
structure ny (l:List aE) (v:aE) (k:Nat) (done:Bool) (out:List aE):Prop where
 hk:k<=l.length
 eq:rB l v=if done then out++l.drop k else out++rB (l.drop k) v
 len:out.length<=k+done.toNat
def ny.zero (l:List aE) (v:aE):ny l v 0 false []:=⟨Nat.zero_le _,by simp,by simp⟩
def je (l:List cx):Int:=l.foldl (λt s=>if t<s.time then s.time else t) 0
def BO {l:List cx} {k:Nat} (h:k<l.length):je (l.take (k+1))=if je (l.take k)<(ab l k).time then(ab l k).time else je (l.take k):=by
 unfold je;rw[eT h,List.foldl_append];rfl
def Jc:∀{l:List cx} {t:Int},0<=t->t<=9999->(∀s∈l,di s=true)->0<=l.foldl (λt s=>if t<s.time then s.time else t) t/\l.foldl (λt s=>if t<s.time then s.time else t) t<=9999
 |[],t,h0,h1,_=>⟨h0,h1⟩
 |s::l,t,h0,h1,h=>by
  have U:=h s bk;simp[di,aH] at U;rw[List.foldl_cons];split
  .exact Jc om om λx hx=>h x (by simp[hx])
  exact Jc h0 h1 λx hx=>h x (by simp[hx])
def EN {l:List cx} (h:∀s∈l,di s=true) (k:Nat):0<=je (l.take k)/\je (l.take k)<=9999:=Jc om om λs U=>h s (List.mem_of_mem_take U)
def js (l:List cx):Bool:=decide (je l<9999)
def nz (site:Int) (l:List cx):cx:=if js l then⟨je l+1,site⟩ else⟨0,0⟩
def ix (l:List aE) (v:aE):Bool:=dL v&&decide (placeOf l v.aU<0)&&decide (l.length<80)
def lC:List au->au->List au
 |[],d=>[d]
 |e::r,d=>if eD d e then d::e::r else e::lC r d
structure nA (l:List au) (v:au) (k:Nat) (done:Bool) (out:List au):Prop where
 hk:k<=l.length
 eq:lC l v=if done then out++l.drop k else out++lC (l.drop k) v
 len:out.length<=k+done.toNat
def nA.zero (l:List au) (v:au):nA l v 0 false []:=⟨Nat.zero_le _,by simp,by simp⟩
def Qs (l:List au) (v:au):(lC l v).length=l.length+1:=by
 induction l with
 |nil=>rfl
 |cons x r ih=>unfold lC;split<;>simp[ih]
def Qt (e d:au):(decide (d.key<e.key)||((e.key==d.key)&&bV d.aq e.aq))=eD d e:=by
 unfold eD;by_cases h:e.key=d.key
 .simp[h]
 have e1:(e.key==d.key)=false:=by simpa using h
 have e2:(d.key==e.key)=false:=by simpa usingλx=>h x.symm
 rw[e1,e2]
def bW:ax:=⟨0,0,0,0,0,⟨0,0⟩,0,false,[],0,0,[],[],[]⟩
def eX (site:Int):Int:=if site%2=0 then site+1 else site-1
def oV (s:Server) (key ao call:Int) (v:aE):Bool:=(v.key==key)&&(v.ao==ao)&&(v.call==call)&&(bM v.aq.site==bM s.site)
def ki (s:Server) (key ao call:Int):Option aE:=s.ai.find? (oV s key ao call)
def mU (s:Server) (m:ax) (st:cx):ax:={bW with kind:=2,aO:=s.site,to:=m.aO,call:=m.call,key:=m.key,aq:=st}
def lM (s:Server) (m:ax) (o:Option aE):ax:={bW with kind:=4,aO:=s.site,to:=m.aO,call:=m.call,key:=m.key,aq:=m.aq,yes:=o.isSome,ai:=o.toList}
def l8 (s:Server) (m:ax) (v:aE):ax:={bW with kind:=6,aO:=s.site,to:=m.aO,key:=v.key,aq:=v.aq}
def mA (s:Server) (m:ax):ax:={bW with kind:=8,aO:=s.site,to:=m.aO,key:=m.key,aq:=m.aq}
def kK (s:Server) (m:ax):List ax:=if(eE s.ai ⟨m.key,m.aq⟩).isSome&&(m.aO==eX s.site) then[mA s m] else[]
def mV (s:Server) (m:ax):ax:={bW with kind:=10,aO:=s.site,to:=m.aO,slot:=m.slot,ba:=m.ba}
def mB (s:Server) (d:au):ax:={bW with kind:=7,aO:=s.site,to:=eX s.site,key:=d.key,aq:=d.aq}
def c8:List Answer->Answer->List Answer
 |[],a=>[a]
 |e::r,a=>if a.key<e.key then a::e::r else e::c8 r a
def aaN (v:Value) (l:List (List AV)) (x:List AV) (i:Nat) (hi:i<=l.length) (hl:l.length<=1048576) (eQ:∀r∈l,r.length=7) (hx:x.length=7):
 jC prog 176 [AV.val v,AV.int i,AV.rows 7 [x]] [Own.row v 62 7 l] [] (AV.rows 7 (l.take i++x::l.drop i)):=by
 refine jC.intro 95 func176 rfl ntmps176 rfl aS (λW I a U=>?_);obtain⟨q,cap,rfl,nh⟩:=U.Bh 0 rfl;refine bm λI a w U=>?_;refine U.o (Hz eJ bQ .tt .tt ⟨by omega,by omega⟩ nh) λU=>?_;refine bK λI a w U=>?_;refine U.o (AG eJ .tt) λU=>?_;rw[show(([x]:List (List AV)).length:Int)=1 from rfl] at U;refine aR λI a w U=>?_;refine U.cd (λae=>?_) λae=>?_
 .exfalso;simp at ae;skip
 refine iP λI a w U=>?_;refine cz (λah=>?_) λah=>?_
 .refine aG λI a w U=>?_;refine U.append 0 rfl eJ bQ rfl .tt .tt rfl (by simp only[List.length_singleton];omega) λxC a w U=>?_;obtain⟨I,U⟩:=U.fr 0 25;have U:=U.drop 0;refine aB λI a w U=>?_;refine U.tI rfl (.cons .x .nil) rfl ?_;exact congrArg (AV.rows 7) (by rw[show i=l.length by omega];simp)
 refine bB λI a w U=>?_;refine U.o (HB eJ .tt) λU=>?_;refine aB λI a w U=>?_;refine cz (λar=>?_) λar=>?_
 .refine zt ?_;have aX:l≠[]:=by intro e;rw[e] at hi ah;simp at hi ah;omega
  obtain⟨b,oC,he,kT,jZ,mr,U⟩:=U.tF 0 rfl aX;simp only[Value.slice.injEq] at he;obtain⟨rfl,_,rfl⟩:=he;have hA:(l.take i).flatten.length=i*7:=by rw[hZ λr hr=>eQ r (List.mem_of_mem_take hr),List.length_take,Nat.min_eq_left hi]
  have hB:(l.drop i).flatten.length=(l.length-i)*7:=by rw[hZ λr hr=>eQ r (List.mem_of_mem_drop hr),List.length_drop]
  rw[show l.flatten=(l.take i).flatten++(l.drop i).flatten by rw[<-List.flatten_append,List.take_append_drop],List.map_append] at U;have g7:([x]:List (List AV)).flatten.length=7:=by simpa using hx
  have hlen:(l.take i++x::l.drop i).length=l.length+1:=by simp;omega
  have nB:∀r∈l.take i++x::l.drop i,r.length=7:=λr hr=>(List.mem_append.1 hr).elim (λh=>eQ r (List.mem_of_mem_take h)) λh=>(List.mem_cons.1 h).elim (λe=>e▸hx) λh=>eQ r (List.mem_of_mem_drop h);have rC:(l.take i++x::l.drop i).flatten.map some=(l.take i).flatten.map some++([x]:List (List AV)).flatten.map some++(l.drop i).flatten.map some:=by simp
  refine aG λI a w U=>?_;refine U.o (tH (hi:=i) eJ bQ .tt .tt rfl om om) λU=>?_;refine cj λI a w U=>?_;refine U.HC (kd:=l.length+1-i) (xs:=(l.take i).flatten) 0 eJ rh bQ rfl aN .tt .tt om om rfl (by rw[List.drop_zero,List.append_assoc];exact lg _ (List.length_map _)) hA om om om rfl λ{gb BP a w} sf u9 U=>?_;refine bm λI a w U=>?_;refine U.o (kx (lo:=i) eJ bQ .tt .tt rfl om om) λU=>?_;refine U.m λU=>?_;refine U.yE 1 eJ bQ .tt .tt rfl bk (by simp only[List.length_singleton];omega) (by simp only[List.length_singleton,List.length_append,List.length_map,List.length_replicate,hA];omega) rfl λU=>?_;refine zt ?_;refine U.dt 8 ?_;simp only[TD];refine ef ?_;refine .o (kx (lo:=i+1) eJ bQ .tt .tt om om om) ?_;refine cB ?_;refine .o (kx (lo:=i) eJ bQ .tt .tt rfl om om) ?_;refine .nil ?_;intro I a w U;refine U.yF (xs:=(l.drop i).flatten) 1 0 eJ bQ .tt .tt rfl rfl (by rw[List.append_assoc,wT _ (by simp only[List.length_map,hA];omega)];exact lg _ (List.length_map _)) (by rw[hB,Nat.min_eq_left om]) (by rw[lW (by simp only[List.length_map,List.length_append,List.length_replicate,g7,hA];omega)];simp only[List.length_append,List.length_map,List.length_replicate,hA,hB];omega) rfl λU=>?_;rw[HI (by simp only[List.length_map,hA];omega) (by simp only[List.length_map,g7];omega) (by simp only[List.length_map,List.length_replicate,g7,hB];omega)] at U;have U:=U.tG (l:=l.take i++x::l.drop i) (cap:=BP) 1 rfl (by simp only[List.length_append,List.length_map,List.length_drop,List.length_replicate,hA,hB,g7];omega) nB om om om (by rw[rC,hlen];exact lg _ (by simp only[List.length_append,List.length_map,hA,hB,g7];omega));rw[show i+(l.length+1-i)=(l.take i++x::l.drop i).length by omega] at U;obtain⟨I,U⟩:=U.fr 1 9;have U:=U.drop 0;refine aF λI a w U=>?_;exact U.tI rfl (.cons (by first|exact .t rfl|exact .nil rfl) .nil) rfl rfl
 refine zt ?_;have aX:l≠[]:=by intro e;rw[e] at hi ah;simp at hi ah;omega
 obtain⟨b,oC,he,kT,jZ,mr,U⟩:=U.tF 0 rfl aX;simp only[Value.slice.injEq] at he;obtain⟨rfl,_,rfl⟩:=he;have hA:(l.take i).flatten.length=i*7:=by rw[hZ λr hr=>eQ r (List.mem_of_mem_take hr),List.length_take,Nat.min_eq_left hi]
 have hB:(l.drop i).flatten.length=(l.length-i)*7:=by rw[hZ λr hr=>eQ r (List.mem_of_mem_drop hr),List.length_drop]
 rw[show l.flatten=(l.take i).flatten++(l.drop i).flatten by rw[<-List.flatten_append,List.take_append_drop],List.map_append] at U;have g7:([x]:List (List AV)).flatten.length=7:=by simpa using hx
 have hlen:(l.take i++x::l.drop i).length=l.length+1:=by simp;omega
 have nB:∀r∈l.take i++x::l.drop i,r.length=7:=λr hr=>(List.mem_append.1 hr).elim (λh=>eQ r (List.mem_of_mem_take h)) λh=>(List.mem_cons.1 h).elim (λe=>e▸hx) λh=>eQ r (List.mem_of_mem_drop h);have rC:(l.take i++x::l.drop i).flatten.map some=(l.take i).flatten.map some++([x]:List (List AV)).flatten.map some++(l.drop i).flatten.map some:=by simp
 refine bB λI a w U=>?_;refine U.o (tH (hi:=l.length+1) eJ bQ .tt .tt om om om) λU=>?_;refine ee λI a w U=>?_;refine U.o (kx (lo:=i+1) eJ bQ .tt .tt om om om) λU=>?_;refine U.overlaps (tR:=4) 0 func212 rfl aS aS aS eJ bQ aN .tt bk .tt rfl rfl λU=>?_;refine aB λI a w U=>?_;refine U.cd (λaM=>?_) λaM=>?_
 .refine wp_seq ?_;refine U.dt 8 ?_;simp only[TD];refine ef ?_;refine .o (kx (lo:=i+1) eJ bQ .tt .tt om om om) ?_;refine cB ?_;refine .o (kx (lo:=i) eJ bQ .tt .tt rfl om om) ?_;refine .nil ?_;intro I a w U;refine U.yF (xs:=(l.drop i).flatten) 0 0 eJ bQ .tt .tt rfl rfl (by rw[List.append_assoc,wT _ (by simp only[List.length_map,hA];omega)];exact lg _ (List.length_map _)) (by rw[hB];congr 1;omega) (by simp only[List.length_append,List.length_map,List.length_replicate,hA,hB];omega) rfl λU=>?_;refine aG λI a w U=>?_;refine U.o (kx (lo:=i) eJ bQ .tt .tt rfl om om) λU=>?_;refine U.m λU=>?_;refine U.yE 0 eJ bQ .tt .tt rfl bk (by simp only[List.length_singleton];omega) (by rw[lW (by simp only[List.length_map,List.length_append,List.length_replicate,hA,hB];omega)];simp only[List.length_singleton,List.length_append,List.length_map,List.length_replicate,hA,hB];omega) rfl λU=>?_;rw[HH (by simp only[List.length_map,hA];omega) (by simp only[List.length_map,g7];omega) (by simp only[List.length_map,List.length_replicate,g7];omega)] at U;have U:=U.tG (l:=l.take i++x::l.drop i) (cap:=cap) 0 rfl (by simp only[List.length_append,List.length_map,List.length_drop,List.length_replicate,hA,hB,g7];omega) nB om om om (by rw[rC,hlen];exact lg _ (by simp only[List.length_append,List.length_map,hA,hB,g7];omega));rw[show l.length+1=(l.take i++x::l.drop i).length by omega] at U;obtain⟨I,U⟩:=U.fr 0 0;have U:=U.drop 0;refine aF λI a w U=>?_;exact U.tI rfl (.cons (by first|exact .t rfl|exact .nil rfl) .nil) rfl rfl
 exfalso;simp at aM;skip
def Qu (d e:au):([d.key,d.aq.time,d.aq.site] !=[e.key,e.aq.time,e.aq.site])=!decide (d=e):=by
 obtain⟨k,⟨t,s⟩⟩:=d;obtain⟨k',⟨t',s'⟩⟩:=e;rw[Bool.eq_iff_iff];simp;omega
def Qv (q:Call):(((q.kind==1)&&decide (0<(q.aC.length:Int)+q.aL.length))||(!(q.kind==1)&&((q.val !=0)||!dS q.aq)))=!zl q:=by simp[zl]
def Qw (q:Call):(decide (0<(q.aL.length:Int))&&decide ((q.aC.length:Int)<q.keys.length))=!EJ q:=by simp[EJ]
def EO:Bk prog 126 3 3 (λx:Int=>Lit.int .i64 x) (λx:Int=>Value.int .i64 x) (λx=>.lit (.int .i64 x)) (λx=>-9223372036854775808<=x/\x<=9223372036854775807) 0:=Xx Yq rh rh λw=>jQ.zero
def iX {l:List au} (h:fZ l=true):l.length<=80:=by
 unfold fZ at h;rw[Bool.and_eq_true,decide_eq_true_eq] at h;exact h.1
def zn (q:Call):Prop:=q.keys.length<=1048576/\q.ctx.length<=1048576/\q.aC.length<=1048576/\(∀y∈q.aC,y.bl.aQ.length<=1048576)/\q.aL.length<=1048576
def Server.zq (s:Server) (v:Value):AV:=.agg [.int s.site,.bool s.up,.val v,cn s.ai,cn s.waits,bE s.aD,bE s.aV]
def ob {α:Type} [Inhabited α] {p:α->Bool} {l:List α} {k:Nat} (h:k<l.length) (hp:p (ab l k)=false):(l.take (k+1)).filter p=(l.take k).filter p:=by
 rw[eT h,List.filter_append,List.filter_cons,hp];simp
def sW {α:Type} (p:α->Bool) (l:List α) (k:Nat):((l.take k).filter p).length<=l.length:=by
 have h1:=List.length_filter_le p (l.take k);have h2:(l.take k).length<=l.length:=by simp;omega
 omega
def vB {l:List aE} {v:aE} (h:ix l v=true):dL v=true/\placeOf l v.aU<0/\l.length<80:=by
 unfold ix at h;simp only[Bool.and_eq_true,decide_eq_true_eq] at h;exact⟨h.1.1,h.1.2,h.2⟩
def BQ (e d:au):([e.key,e.aq.time,e.aq.site]==[d.key,d.aq.time,d.aq.site])=decide (e=d):=by
 obtain⟨k,⟨t,s⟩⟩:=d;obtain⟨k',⟨t',s'⟩⟩:=e;rw[Bool.eq_iff_iff];simp
def Qx {α:Type} [Inhabited α] {p:α->Bool} {l:List α} {k:Nat} (hk:k<l.length) (h:∀i,i<k->p (ab l i)=false) (hp:p (ab l k)=true):l.find? p=some (ab l k):=by
 rw[List.find?_eq_some_iff_getElem];refine⟨hp,k,hk,by simp[ab,hk],λj hj=>?_⟩;have lT:j<l.length:=by omega
 have:=h j hj;simpa[ab,lT] using this
def aaO (n:Int) (l:List cx) (hn:cr n=true) (hl:∀s∈l,di s=true):
 Fn prog 222 [AV.int n,AV.rows 2 (l.map cx.cells)] (AV.dy [(nz n l).av,AV.bool (js l)]):=by
 refine Fn.go 44 func222 ntmps222 (λW I a U=>?_);have hle:=U.eC (t:=1) rfl;refine sr<|U.alloc rfl mP ke λb4 I a w U=>?_;refine aG λI a w U=>?_;refine U.o (.c1 (sG ..)) λU=>?_;refine aB λI a w U=>?_;refine U.cd (λae=>?_) λae=>?_
 .exfalso;rw[hn] at ae;cases ae;skip
 refine aF λI a w U=>?_;refine St.lo (σ:=Nat) (run 3 5 (run 25 12 [])) ⟨λk=>[(7,AV.int k),(6,AV.int (je (l.take k)))],λk=>[Own.box b4 50 [AV.val (.int .i64 0),AV.val (.int .i64 0)]],λk=>k<=l.length⟩ (λk=>l.length-k) 0 U ?aJ ?bF;case aJ=>exact Nat.zero_le _
 rintro k I a w an U;have hk:k<=l.length:=an;refine aZ λI a w U=>?_;refine cz (λah=>?_) λah=>?_
 .refine bB λI a w U=>?_;refine U.o (.c1 (w5 ..)) λU=>?_;refine aB λI a w U=>?_;refine U.cd (λar=>?_) λar=>?_
  .exfalso;simp only[B] at ar;rw[hl _ (bf ah)] at ar;cases ar;skip
  refine jD λI a w U=>?_;refine cz (λaM=>?_) λaM=>?_
  .refine pz λI a w U=>?_;refine U.again (k+1) ?iG ?iH eA ?iI (by repeat(first|exact Env.le_rfl|refine Env.ja rfl ?_));case iG=>omega
   case iH=>exact ah
   case iI=>exact(Env.dK rfl eA (Env.dK rfl (by first|exact congrArg AV.int (by rw[BO ah,if_pos aM])|exact congrArg AV.int (by rw[BO ah,if_neg om])) Env.le_nil))
  refine aR λI a w U=>?_;refine U.again (k+1) ?nC ?nD eA ?nE (by repeat(first|exact Env.le_rfl|refine Env.ja rfl ?_));case nC=>omega
  case nD=>exact ah
  case nE=>exact(Env.dK rfl eA (Env.dK rfl (by first|exact congrArg AV.int (by rw[BO ah,if_pos aM])|exact congrArg AV.int (by rw[BO ah,if_neg om])) Env.le_nil))
 refine zt ?_;refine aF λI a w U=>?_;refine cz (λaP=>?_) λaP=>?_
 .refine zt ?_;refine U.o (.bd ke bc.nil) λU=>?_;refine aF λI a w U=>?_;rw[List.take_of_length_le om] at aP;refine U.ret rfl (.cons (.sx 0) (.cons (.t rfl) aW.nil)) ?_;have e:js l=false:=by unfold js;simp;omega
  exact(by unfold nz;rw[e];rfl)
 refine bK λI a w U=>?_;refine U.o (mH .tt .c (λ_=>by have:=EN hl k;omega)) λU=>?_;refine U.m λU=>?_;refine U.o (.bd ke (.k (.k bc.nil))) λU=>?_;refine aF λI a w U=>?_;rw[List.take_of_length_le om] at aP;refine U.ret rfl (.cons (.sx 0) (.cons (.t rfl) aW.nil)) ?_;have e:js l=true:=by unfold js;simp;omega
 exact(by unfold nz;rw[e,List.take_of_length_le om];rfl)
def zs (n:Int) (hn:cr n=true):
 Fn prog 188 [AV.int n] (AV.int (eX n)):=by
 refine Fn.go 10 func188 ntmps188 (λW I a U=>?_);have C9:0<=n/\n<=3:=by simpa[cr,aH] using hn
 refine aG λI a w U=>?_;refine U.o (sk .tt .c (λ_=>by omega)) λU=>?_;refine aB λI a w U=>?_;refine U.cd (λae=>?_) λae=>?_
 .refine tJ ?_;exact fW (by unfold eX;rw[if_pos (by simpa using ae)])
 refine tJ ?_;exact fW (by unfold eX;rw[if_neg (by simpa using ae)])
def Qy {α:Type} [Inhabited α] {l:List α} {n:Nat} {x:α} (h:x∈l.take n++l.drop (n+1)):∃k,k<l.length/\k≠n/\ab l k=x:=by
 rcases List.mem_append.1 h with h|h
 .obtain⟨k,hk,rfl⟩:=List.getElem_of_mem h;have fC:k<n/\k<l.length:=by simp at hk;omega
  exact⟨k,fC.2,by omega,by simp[ab,fC.2]⟩
 obtain⟨k,hk,rfl⟩:=List.getElem_of_mem h;have fC:n+1+k<l.length:=by simp at hk;omega
 exact⟨n+1+k,fC,by omega,by simp[ab,fC]⟩
def rD {α:Type} {p:α->Bool} {l:List α} {x:α} (h:x∈l.filter p):x∈l:=(List.mem_filter.1 h).1
def BR {m:ax} (h:bI m=true):c7 m.key=true:=by
 simp only[bI,Bool.and_eq_true] at h;exact h.1.1.1.1.1.1.1.1.2
def mW {m:ax} (h:bI m=true):cg m.ai=true/\cg m.waits=true/\fZ m.aD=true/\bU m.aQ=true:=by
 simp only[bI,Bool.and_eq_true] at h;exact⟨h.1.1.2,h.1.2,h.2,h.1.1.1.1.1.2⟩
def EP:∀{l:List au} {d x:au},x∈lC l d↔x=d\/x∈l
 |[],d,x=>by simp[lC]
 |e::r,d,x=>by
  unfold lC;split
  .simp
  rw[List.mem_cons,EP,List.mem_cons];constructor
  .rintro(h|h|h)<;>simp[h]
  rintro(h|h|h)<;>simp[h]
def aaP {site:Int} {l:List cx} (hn:cr site=true) (hl:∀s∈l,di s=true) (ho:js l=true):di (nz site l)=true/\(nz site l).site=site/\∀s∈l,s.time<(nz site l).time:=by
 have hr:=EN hl l.length;rw[List.take_length] at hr;have hm:je l<9999:=by simpa[js] using ho
 have hle:∀(l:List cx) (t:Int),t<=l.foldl (λt s=>if t<s.time then s.time else t) t/\∀s∈l,s.time<=l.foldl (λt s=>if t<s.time then s.time else t) t:=by
  intro l;induction l with
  |nil=>intro t;simp
  |cons a r ih=>
   intro t
   rw[List.foldl_cons]
   have h1:=ih (if t<a.time then a.time else t)
   have h2:t<=(if t<a.time then a.time else t)/\a.time<=(if t<a.time then a.time else t):=by split<;>omega
   refine⟨by omega,λs U=>?_⟩
   rcases List.mem_cons.1 U with rfl|U
   .omega
   exact h1.2 s U
 unfold nz;rw[ho,if_pos rfl];refine⟨by simp[di,aH,hn];omega,rfl,λs U=>?_⟩;have:=(hle l 0).2 s U;show s.time<je l+1;unfold je;omega
def Qz (l:List aE) (v:aE):(!dL v||decide (0<=placeOf l v.aU)||((l.length:Int)==80))=!(dL v&&decide (placeOf l v.aU<0)&&!decide (l.length=80)):=by
 have e:((l.length:Int)==80)=decide (l.length=80):=by rw[Bool.eq_iff_iff];simp;omega
 have e2:decide (0<=placeOf l v.aU)=!decide (placeOf l v.aU<0):=by rw[Bool.eq_iff_iff];simp
 rw[e,e2];simp
def QA {l:List aE} (v:aE) (h:cg l=true):(dL v&&decide (placeOf l v.aU<0)&&!decide (l.length=80))=ix l v:=by
 have hl:=g0 h;have e:(!decide (l.length=80))=decide (l.length<80):=by rw[Bool.eq_iff_iff];simp;omega
 unfold ix;rw[e]
def BS {l:List aE} (h:cg l=true) (d:au):kz l d=eE l d:=by unfold kz eE;simp[h]
def kp {α:Type} (p:α->Bool) (l:List α) (j:Nat):List α:=(l.take j).filter λd=>!p d
def QB (s:Server) (m:ax):((m.aO !=eX s.site)||decide (m.ba<1))=!((m.aO==eX s.site)&&decide (1<=m.ba)):=by
 have e:decide (m.ba<1)=!decide (1<=m.ba):=by rw[Bool.eq_iff_iff];simp
 rw[e];simp[bne]
def aaQ (a b:Nat):decide ((a:Int)+b<=80)=decide (a+b<=80):=by rw[Bool.eq_iff_iff];simp;omega
abbrev uf (l:List aE) (I0:Im):={x:Nat×Value//x.1<l.length/\(ab l x.1).av.h I0 x.2}
def vC {l:List aE} {I0:Im} (xs:List (uf l I0)):Prop:=∀j x,xs[j]?=some x->x.1.1+1+j=l.length
def Jd (a:Act):Nat:=match a.tmps.getD 3 undef with|.int _ x=>(x+1).toNat|_=>0
def QC {c:Ctx} {I:Im} {H:List Own} {Γ:Env} {a:Act} {w:World} {k:Nat} (U:St c I H Γ a w) (h:Env.get 3 Γ=some (.int ((k:Int)-1)):=by rfl):Jd a=k:=by
 have:=U.env 3 _ h;unfold Jd;rw[show a.tmps.getD 3 undef=_ from this];simp
def Je (r:List Value):List AV:=[.val (r.getD 0 undef),.val (r.getD 1 undef),.val (r.getD 2 undef),.val (r.getD 3 undef),.val (r.getD 4 undef),.val (r.getD 5 undef),.val (r.getD 6 undef)]
def QD {r:List Value} (h:r.length=7):r.map AV.val=Je r:=by
 match r,h with
 |[a,b,c,d,e,f,g],_=>rfl
def aaR {a b c:Bool} (h:(a&&c)=true) (k:b=true):(a&&b&&c)=true:=by rw[Bool.and_right_comm,h,k];rfl
def aaS (m:ax) (d:au):
 Fn prog 245 [d.av,AV.ptr m.cells] (AV.bool (decide (d=⟨m.key,m.aq⟩))):=by
 refine Fn.go 11 func245 ntmps245 (λW I a U=>?_);refine gT λI a w U=>?_;refine U.o (.bd gK (.k (.t bc.nil))) λU=>?_;refine U.o (nj [_,_,_] [_,_,_] yN rfl rfl .tt .tt) λU=>?_;refine bh ?_;exact congrArg AV.bool (BQ d ⟨m.key,m.aq⟩)
def QE (x:Int):fF (x-10)=aH x 10 11:=by
 unfold fF aH;rw[Bool.eq_iff_iff];simp;omega
def aaT {s:Server} {m:ax} (h:(m.kind==10&&(m.aO==eX s.site)&&([(ab s.aw m.slot.toNat).ba,(ab s.aw m.slot.toNat).bD]==[m.ba,2]))=true):(cY.cells (ab s.aw m.slot.toNat)).set 1 (AV.int 0)=cY.cells ⟨m.ba,0⟩:=by
 simp only[Bool.and_eq_true,beq_iff_eq,List.cons.injEq] at h;show[AV.int _,AV.int 0]=[AV.int _,AV.int 0];rw[h.2.1]
def QF {s:Server} {m:ax} (h:(m.kind==9&&(m.aO==eX s.site)&&decide (0<m.ba))=true):m.kind=9/\((m.aO==eX s.site)&&decide (1<=m.ba))=true:=by
 simp only[Bool.and_eq_true,beq_iff_eq,decide_eq_true_eq] at h⊢;exact⟨h.1.1,h.1.2,by omega⟩
def zu {m:ax} {k:Int} {b:Bool} (h:(m.kind==k&&b)=false) (hk:m.kind=k):b=false:=by rw[hk,beq_self_eq_true,Bool.true_and] at h;exact h
def pF (key:Int) (d:au):Bool:=d.key==key
def bN (l:List au) (key:Int):cx:=match l.find? (pF key) with
 |some d=>d.aq
 |none=>⟨0,0⟩
def Pa {l:List au} {key:Int} {k:Nat} (hk:k<l.length) (h:∀i,i<k->pF key (ab l i)=false) (hp:pF key (ab l k)=true):bN l key=(ab l k).aq:=by
 have:l.find? (pF key)=some (ab l k):=by
  rw[List.find?_eq_some_iff_getElem];refine⟨hp,k,hk,by simp[ab,hk],λj hj=>?_⟩;have lT:j<l.length:=by omega
  have:=h j hj;simpa[ab,lT] using this
 unfold bN;rw[this]
def pG (w:aj):Bool:=!(!aH w.time 0 99999||((w.aA.length:Int) !=4)||decide (60<(w.al.length:Int))||((w.seen.length:Int) !=2))
def w8 (m:ax):Bool:=!bI m
def w9 (l:List au):Bool:=!bU l
def lZ (e:au) (r:List au) (key:Int):bN (e::r) key=if e.key=key then e.aq else bN r key:=by
 unfold bN;rw[List.find?_cons];by_cases h:e.key=key
 .rw[if_pos h,show pF key e=true by simp[pF,h]]
 rw[if_neg h,show pF key e=false by simp[pF,h]]
def yU:∀{l:List au} {last key:Int},eb last l=true->key<=last->bN l key=⟨0,0⟩
 |[],_,_,_,_=>rfl
 |e::r,last,key,h,hk=>by
  have hh:=h;simp only[eb,Bool.and_eq_true,aH,decide_eq_true_eq] at h;rw[lZ,if_neg om];exact yU h.2 om
def leaving (s:Server):List Nat:=(List.range s.aw.length).filter λi=>(ab s.aw i).bD==2
def gV (s:Server) (slot:Int):Server:={s with aw:=s.aw.set slot.toNat ⟨(ab s.aw slot.toNat).ba+1,2⟩}
def ll (s:Server):Server:={s with up:=false,aV:=[]}
def jF (s:Server):Server:={s with up:=true}
def cD (q:Call):Bool:=(q.end_==0)&&!q.over
def nV (tN:List au) (a:Answer):List au:=if bV a.bl.aq (bN tN a.key) then[⟨a.key,bN tN a.key⟩] else[]
def kD (q:Call) (time:Int):Call:=if q.aL=[] then{q with end_:=time} else q
def dh (m:ax):Answer:=⟨m.key,m.yes,if m.yes then ab m.ai 0 else sI⟩
def ri (ao:Int) (q:Call):Bool:=(q.ao==ao)&&(q.end_==0)&&!q.over
def bY (calls:List Call) (ao:Int):Int:=df (ri ao) calls
def lq (e:Ev):List Int:=e.a::(if e.call=2/\e.a<e.b then e.b::(if e.b<e.c then[e.c] else[]) else[])
def Zi:aj:=⟨0,[],[],[],[]⟩
def xa (site:Nat):Server:=⟨site,true,(List.range 3).map λi=>if i%2=site%2 then⟨1,1⟩ else⟨0,0⟩,[],[],[],[]⟩
def dA:aj:=⟨0,(List.range 4).map xa,[],[],[[],[]]⟩
def Zj (q:Call):
 Fn prog 146 [q.av] (AV.bool (w7 q)):=by
 refine Fn.go 57 func146 ntmps146 (λW I a U=>?_);have lens:q.keys.length<=9223372036854775807/\q.aC.length<=9223372036854775807/\q.aL.length<=9223372036854775807:=⟨U.ln 0 3,U.ln 0 11,U.ln 0 12⟩;refine Bp λI a w U=>?_;refine U.cd (λae=>?_) λae=>?_
 .refine bh ?_;exact bP (by unfold w7;rw[ae];rfl)
 refine aB λI a w U=>?_;refine St.lo (σ:=Nat) (run 2 2 (run 32 25 [])) ⟨λk=>[(3,AV.int k)],λk=>[],λk=>k<=q.keys.length/\∀i,i<k->(fl c7 mR q.keys) i=true⟩ (λk=>q.keys.length-k) 0 U ?aJ ?bF;case aJ=>exact⟨Nat.zero_le _,λi hi=>by omega⟩
 rintro k I a w an U;obtain⟨pH,aT⟩:=an;refine cI λI a w U=>?_;refine cz (λah=>?_) λah=>?_
 .refine zt ?_;refine U.dk ?_;refine gF ?_;refine .o (.c1 (vf ..)) ?_;refine nT ?_;refine dD ?_;refine .nil ?_;intro I a w U;refine bj ?_;refine U.cd (λar=>?_) λar=>?_
  .rw[O8] at ar;replace ar:=nt ar;refine bh ?_;exact bP (by unfold w7 lj;rw[fY (f:=fl c7 mR q.keys) ah ar];simp)
  rw[O8] at ar;replace ar:=nf ar;refine aR λI a w U=>?_;exact U.ag (k+1) (⟨by omega,gI aT ar⟩)
 refine zt ?_;refine bh ?_;exact bP (by unfold w7 lj;rw[ae,fP aT om];rfl)
def Pb {α:Type} [Inhabited α] {l:List α} {j k:Nat} (h:j<k):ab (l.take k) j=ab l j:=by
 unfold ab;simp[List.getD_eq_getElem?_getD,List.getElem?_take,h]
def Zk {x:aj} (h:pG x=true):0<=x.time/\x.time<=99999:=by
 simp only[pG,Bool.not_eq_true',Bool.or_eq_false_iff] at h;have:=h.1.1.1;simp[aH] at this;exact this
def tO {m:ax} (h1:1<=m.kind/\m.kind<=10) (h2:kb m.aO=true) (h3:kb m.to=true) (h4:0<=m.call/\m.call<=99) (h5:c7 m.key=true) (h6:lU m.aq=true) (h7:0<=m.val/\m.val<=9999) (h8:bU m.aQ=true) (h9:0<=m.slot/\m.slot<=2)
 (D6:0<=m.ba/\m.ba<=9999) (Dk:cg m.ai=true) (Ih:cg m.waits=true) (Zl:fZ m.aD=true):bI m=true:=by
 simp only[bI,Bool.and_eq_true,aH,decide_eq_true_eq];exact⟨⟨⟨⟨⟨⟨⟨⟨⟨⟨⟨⟨h1,h2⟩,h3⟩,h4⟩,h5⟩,h6⟩,h7⟩,h8⟩,h9⟩,D6⟩,Dk⟩,Ih⟩,Zl⟩
def pI {n:Int} (h:cr n=true):kb n=true:=by unfold kb;rw[h];rfl
def xb:fZ []=true:=rfl
def Ii:c7 0=true:=rfl
def Zm (s:Server):(leaving s).length<=s.aw.length:=by
 have:=List.length_filter_le (λi=>(ab s.aw i).bD==2) (List.range s.aw.length);rw[List.length_range] at this;exact this
def nu {q:Call} (h:cD q=true):q.end_=0/\q.over=false:=by
 unfold cD at h;simpa using h
def pJ {n:Int}:fF n=true↔0<=n/\n<=1:=by simp[fF,aH]
def Zn {n:Int} (h:fF n=true):kb (10+n)=true:=by
 rw[pJ] at h;unfold kb aH;simp;right;omega
def sJ {α:Type} [Inhabited α] {l:List α} {i:Nat} {a x:α} (h:x∈l.set i a):x=a\/∃k,k<l.length/\k≠i/\x=ab l k:=by
 obtain⟨k,hk,rfl⟩:=List.getElem_of_mem h;rw[List.length_set] at hk;by_cases e:i=k
 .subst e;left;simp
 right;refine⟨k,hk,λe'=>e e'.symm,?_⟩;rw[List.getElem_set_ne e];simp[ab,hk]
def Ij {α:Type} [Inhabited α] {l:List α} {i k:Nat} {a:α} (h:k<l.length) (aX:k≠i):ab l k∈l.set i a:=by
 rw[List.mem_iff_getElem];refine⟨k,by simpa using h,?_⟩;rw[List.getElem_set_ne (λe=>aX e.symm)];simp[ab,h]
def Pc (p:au->Bool):∀{l:List au} {last:Int},eb last l=true->eb last (l.filter p)=true
 |[],_,_=>rfl
 |d::r,last,h=>by
  simp only[eb,Bool.and_eq_true] at h;have ih:=Pc p h.2;have hd:=h.1.1;simp only[aH,Bool.and_eq_true,decide_eq_true_eq] at hd;by_cases hp:p d=true
  .rw[List.filter_cons_of_pos hp];simp only[eb,Bool.and_eq_true];exact⟨h.1,ih⟩
  rw[List.filter_cons_of_neg hp];cases hr:r.filter p with
  |nil=>rfl
  |cons e r'=>
   rw[hr] at ih
   simp only[eb,Bool.and_eq_true,aH,decide_eq_true_eq] at ih⊢
   exact⟨⟨⟨by omega,ih.1.1.2⟩,ih.1.2⟩,ih.2⟩
def l5 {l:List Call} {ao:Int} (h:0<=bY l ao):(bY l ao).toNat<l.length/\(ab l (bY l ao).toNat).ao=ao/\cD (ab l (bY l ao).toNat)=true:=by
 unfold bY df at*;split at h
 .rename_i k hk;obtain⟨h1,h2,_⟩:=List.findIdx?_eq_some_iff_getElem.1 hk;have e:l[k]=ab l k:=by simp[ab,h1]
  rw[e] at h2;simp only[ri,Bool.and_eq_true,beq_iff_eq] at h2;refine⟨by simpa using h1,by simpa using h2.1.1,?_⟩;unfold cD;simp[h2.1.2,h2.2]
 omega
def sK (site k:Nat):List cY:=(List.range k).map λi=>if i%2=site%2 then⟨1,1⟩ else⟨0,0⟩
def Pd {site k:Nat} (h:(k:Int)%2=(site:Int)%2):sK site k++[⟨1,1⟩]=sK site (k+1):=by
 unfold sK;rw[List.range_succ,List.map_append,List.map_singleton,if_pos om]
def Pe {site k:Nat} (h:¬(k:Int)%2=(site:Int)%2):sK site k++[⟨0,0⟩]=sK site (k+1):=by
 unfold sK;rw[List.range_succ,List.map_append,List.map_singleton,if_neg om]
def D7 (site k:Nat):(sK site k).length=k:=by simp[sK]
def Call.yV (q:Call) (n:Value):AV:=.agg [AV.int q.ao,AV.int q.num,AV.int q.kind,jb q.keys,AV.int q.val,bE q.ctx,AV.int q.bH,AV.int q.end_,AV.bool q.over,AV.int q.aq.time,AV.int q.aq.site,sw q.aC,.val n]
def aj.Zo (w:aj) (r:Value×Value×Value×Value):AV:=.agg [.int w.time,.val r.1,.val r.2.1,.val r.2.2.1,.val r.2.2.2]
def Ik (q:Call):
 Fn prog 199 [q.av] (AV.bool (cD q)):=by
 refine Fn.go 11 func199 ntmps199 (λW I a U=>?_);refine Bm λI a w U=>?_;refine U.rt ?_;exact bP (by unfold cD;rfl)
def Il {α:Type} [Inhabited α] {l:List α} {k:Nat} {x:α} (h:k<l.length):x∈l.take (k+1)↔x∈l.take k\/x=ab l k:=by rw[eT h];simp
def Pf (d:au) (a:Answer) (h:a.bl.key=a.key):((d.key==a.key)&&([d.aq.time,d.aq.site]==[a.bl.aq.time,a.bl.aq.site]))=decide (d=a.bl.aU):=by
 obtain⟨k,⟨t,s⟩⟩:=d;obtain⟨ak,ay,av⟩:=a;obtain⟨vk,⟨vt,vs⟩,vv,vc,vca,vd⟩:=av;obtain rfl:vk=ak:=h;rw[Bool.eq_iff_iff];simp[aE.aU]
def D8 (m:ax):((m.kind !=4)||(m.yes&&((m.ai.length:Int) !=1||((ab m.ai 0).key !=m.key))))=!decide (m.kind=4/\(m.yes=true->m.ai.length=1/\(ab m.ai 0).key=m.key)):=by
 have e:((m.ai.length:Int) !=1)=!decide (m.ai.length=1):=by rw[Bool.eq_iff_iff];simp;omega
 rw[e,Bool.eq_iff_iff];cases m.yes<;>simp<;>omega
def Pg {s:Server} {m:ax} (h:(m.kind==5&&(cr m.aO&&(bM m.aO !=bM s.site)))=true):m.kind=5/\(cr m.aO&&(bM m.aO !=bM s.site))=true:=by
 rw[Bool.and_eq_true,beq_iff_eq] at h;exact h
def tP (l:List Call) (ao:Int):Nat->Int
 |0=>0
 |k+1=>if(ab l k).ao=ao then(ab l k).num else tP l ao k
def Zp {l:List Call} {ao:Int} {k:Nat} (h:(ab l k).ao=ao):(ab l k).num=tP l ao (k+1):=by show _=(if _ then _ else _);rw[if_pos h]
def Zq {l:List Call} {ao:Int} {k:Nat} (h:¬(ab l k).ao=ao):tP l ao k=tP l ao (k+1):=by show _=(if _ then _ else _);rw[if_neg h]
def Ph (w:aj) (e:Ev):(!aH e.ao 0 1||decide (0<=bY w.calls e.ao))=!(fF e.ao&&decide (bY w.calls e.ao<0)):=by
 have h:decide (0<=bY w.calls e.ao)=!decide (bY w.calls e.ao<0):=by rw[Bool.eq_iff_iff];simp
 rw[h];unfold fF;simp
def Zr {α:Type} [Inhabited α] {l:List α} {i:Nat}:l.set i (ab l i)=l:=by
 apply List.ext_getElem?;intro j;rw[List.getElem?_set];split
 .rename_i h;subst h;split
  .rename_i h;simp[ab,h]
  rename_i h;simp at h;simp[h]
 rfl
def Zs {e:Ev} (h3:(!aH e.kind 6 9||!cr e.at_)=false):cr e.at_=true:=by simp at h3;exact h3.2
def yW:Nat->List Server
 |0=>[]
 |k+1=>yW k++[xa k]
def Io:∀k,(yW k).length=k
 |0=>rfl
 |k+1=>by show(yW k++[xa k]).length=_;rw[List.length_append,Io k];rfl
def Zt (c0:Call) (ao:Int):
 Fn prog 198 [c0.av,AV.ptr [AV.int ao]] (AV.bool (ri ao c0)):=by
 refine Fn.go 12 func198 ntmps198 (λW I a U=>?_);refine mn λI a w U=>?_;refine U.q .T (.cl (Ik c0)) λU=>?_;refine dG ?_;exact bP (by unfold ri cD;rw[Bool.and_assoc])
def Pj (w:aj) (e:Ev):(!fF e.ao||decide (0<=bY w.calls e.ao))=!(fF e.ao&&decide (bY w.calls e.ao<0)):=by
 have h:decide (0<=bY w.calls e.ao)=!decide (bY w.calls e.ao<0):=by rw[Bool.eq_iff_iff];simp
 rw[h];simp
def Pk {x:aj} {e:Ev} (h:((ab x.aA e.at_.toNat).up==(e.kind==7))=false) (h7:¬e.kind=7):(ab x.aA e.at_.toNat).up=true:=by
 rw[show(e.kind==7)=false by simpa using h7] at h;simpa using h
def xd {k m:Int} (hk:0<=k) (hm:0<m):0<=k/m/\k/m<=k:=⟨Int.ediv_nonneg hk om,Int.ediv_le_self _ hk⟩
def Ip (x:UInt8):List AV:=[AV.byte x]
def ia (l:List UInt8):AV:=.rows 1 (l.map Ip)
def Zu (code:List UInt8) (bq:code.length<=1099511627776):
 dr prog 39 [ia code] [] (λr:Nat×List UInt8=>r.2.length<=1099511627776) (λr=>[Own.box r.1 100 [ia r.2,AV.int (0)]]) (λr=>AV.val (.pointer (some ⟨r.1,0,none⟩))):=by
 refine dr.intro 11 func39 rfl ntmps39 rfl aS (λW I a U=>?_);refine bK λI a w U=>?_;refine nn ?_;refine St.cut (σ:=List UInt8) (0::(run 5 3 [])) ⟨λcd=>[(0,ia cd)],λcd=>[],λcd=>cd.length<=1099511627776⟩ U ?Iq ?Zv;case Iq=>
  refine aR λI a w U=>?_;refine px (λae=>?_) λae=>?_
  .refine bK λI a w U=>?_;refine U.o (AS wZ wY .r .c (λ_=>by rw[List.length_map];omega)) λU=>?_;refine aB λI a w U=>?_;refine U.meet (code.take 2000) ?Zw eA ?Zx (by repeat(first|exact Env.Da|refine Env.ja rfl ?_));case Zw=>first|exact bq|(simp;omega)
   case Zx=>exact(Env.dK rfl (by first|rfl|(unfold ia;rw[List.map_take];rfl)) Env.le_nil)
  refine zt ?_;refine U.meet code ?Zy eA ?Zz (by repeat(first|exact Env.Da|refine Env.ja rfl ?_));case Zy=>first|exact bq|(simp;omega)
  case Zz=>exact(Env.dK rfl (by first|rfl|(unfold ia;rw[List.map_take];rfl)) Env.le_nil)
 rintro cd I a w an U;have jG:cd.length<=1099511627776:=an;refine bK λI a w U=>?_;refine U.o (.bd X9 (.k bc.nil)) λU=>?_;refine U.box rfl .tt λl6 I a w U=>?_;refine aB λI a w U=>?_;refine U.dw (l6,cd) [0] rfl (.cons (.t rfl) .nil) jG rfl rfl
def vk (v:aE):Nat:=(cL v.key).toNat
def vg (a b:List au):Prop:=∀key,bV (bN b key) (bN a key)=false
def eh (w:aj) (i:Nat) (s:Server):aj:={w with aA:=w.aA.set i s}
def Ir (w:aj) (i:Nat) (s t:Server):eh (eh w i s) i t=eh w i t:=by unfold eh;simp[List.set_set]
def ZA {i:Nat} (hi:i<4):1-i/2<2:=by omega
def D9 {x y z:cx} (h:bV y x=false) (h':bV z y=false):bV z x=false:=by
 obtain⟨t,s⟩:=x;obtain⟨t',s'⟩:=y;obtain⟨t2,s2⟩:=z;simp[bV] at*;omega
def yX (x:cx):bV x x=false:=by simp[bV]
def Ea {a b d:List au} (h:vg a b) (h':vg b d):vg a d:=λkey=>D9 (h key) (h' key)
def Is {α:Type} [Inhabited α] {l m:List α} {i:Nat} (h:i<l.length):ab (l++m) i=ab l i:=by
 unfold ab;simp[List.getD_eq_getElem?_getD,List.getElem?_append_left h]
def Pm {α:Type} [Inhabited α] {l:List α} {x:α}:ab (l++[x]) l.length=x:=by
 unfold ab;simp[List.getD_eq_getElem?_getD]
def sL (a b:List Call):Prop:=b=a\/(∃q,b=a++[q])\/∃i q,i<a.length/\cD (ab a i)=true/\b=a.set i q
def sL.len {a b:List Call} (h:sL a b):a.length<=b.length/\b.length<=a.length+1:=by
 rcases h with rfl|⟨q,rfl⟩|⟨i,q,_,_,rfl⟩<;>simp
def It:∀(l:List cx) (t:Int),l.foldl (λt s=>if t<s.time then s.time else t) t=t\/∃s∈l,s.time=l.foldl (λt s=>if t<s.time then s.time else t) t
 |[],t=>.inl rfl
 |s::r,t=>by
  rw[List.foldl_cons];rcases It r (if t<s.time then s.time else t) with h|⟨x,hx,h⟩
  .rw[h];split
   .exact .inr ⟨s,by simp,rfl⟩
   exact .inl rfl
  exact .inr ⟨x,by simp[hx],h⟩
def ZB {e:Ev}:0<(lq e).length:=by unfold lq;simp
def ZC {s:Server} {k:Nat} (hk:k<s.aw.length) (h:(ab s.aw k).bD=2):k∈leaving s:=by
 unfold leaving;rw[List.mem_filter,List.mem_range];exact⟨hk,by simp[h]⟩
def Eb:∀(l:List cx) (t:Int),t<=l.foldl (λt s=>if t<s.time then s.time else t) t/\∀s∈l,s.time<=l.foldl (λt s=>if t<s.time then s.time else t) t
 |[],t=>⟨Int.le_refl _,by simp⟩
 |s::r,t=>by
  rw[List.foldl_cons];obtain⟨h1,h2⟩:=Eb r (if t<s.time then s.time else t);have h3:t<=(if t<s.time then s.time else t)/\s.time<=(if t<s.time then s.time else t):=by split<;>omega
  refine⟨by omega,λx hx=>?_⟩;rcases List.mem_cons.1 hx with rfl|hx
  .omega
  exact h2 x hx
def l7 (w:aj):Prop:=∀n,n<w.calls.length->cD (ab w.calls n)=false
end Go.Proofs.YtdanidpleofjgaaGreat
