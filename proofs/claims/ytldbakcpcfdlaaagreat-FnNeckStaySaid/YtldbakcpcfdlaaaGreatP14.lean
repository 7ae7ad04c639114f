/- Part 14: contracts of functions, plain facts. -/
import Derived.Test.YtldbakcpcfdlaaaGreatP10
set_option linter.all false
set_option maxRecDepth 100000
set_option maxHeartbeats 4000000
namespace Go.Proofs.YtldbakcpcfdlaaaGreat
open Go Go.RowKit Tryz
attribute [local irreducible] wpList Code.wp Ok
def vE (n:Int):
 Fn prog 139 [AV.int n] (AV.bool (cM n)):=by
 refine Fn.go 5 func139 ntmps139 (λW I a U=>?_);refine aG λI a w U=>?_;refine U.o (.cl (jI ..)) λU=>?_;refine bf ?_;rfl
def AT (s:cE):
 Fn prog 149 [s.av] (AV.bool (dB s)):=by
 refine Fn.go 11 func149 ntmps149 (λW I a U=>?_);refine bx λI a w U=>?_;refine U.o (.cl (jI ..)) λU=>?_;refine bk λI a w U=>?_;refine U.q .T (.cl (vE ..)) λU=>?_;refine c8 ?_;rfl
def xh (s:cE):
 Fn prog 190 [s.av] (AV.bool (dw s)):=by
 refine Fn.go 6 func190 ntmps190 (λW I a U=>?_);refine bk λI a w U=>?_;refine U.o (.bd kv aZ.nil) λU=>?_;refine U.o (nr [_,_] [_,_] nz rfl rfl .tt .tt) λU=>?_;refine bf ?_;exact bB (by simp[dw])
def Tj (s:cE):
 Fn prog 178 [s.av] (AV.bool (mq s)):=by
 refine Fn.go 10 func178 ntmps178 (λW I a U=>?_);refine bk λI a w U=>?_;refine U.o (.bd kv aZ.nil) λU=>?_;refine U.o (nr [_,_] [_,_] nz rfl rfl .tt .tt) λU=>?_;refine aG λI a w U=>?_;refine U.q .F (.cl (yl ..)) λU=>?_;refine c8 ?_;exact bB (by simp[mq,dw])
def Tk (s:cE):
 Fn prog 147 [s.av] (AV.bool (mq s)):=by
 refine Fn.go 9 func147 ntmps147 (λW I a U=>?_);refine bk λI a w U=>?_;refine U.o (.c1 (xh ..)) λU=>?_;refine aG λI a w U=>?_;refine U.q .F (.cl (AT ..)) λU=>?_;refine c8 ?_;rfl
def K4 (s t:cE):
 Fn prog 239 [s.av,t.av] (AV.bool (bQ s t)):=by
 refine Fn.go 24 func239 ntmps239 (λW I a U=>?_);refine Ft λI a w U=>?_;refine U.rt ?_;rfl
def AU (n:Int):
 Fn prog 181 [AV.int n] (AV.int (bM n)):=by
 refine Fn.go 8 func181 ntmps181 (λW I a U=>?_);refine aG λI a w U=>?_;refine U.o (.c1 (vE ..)) λU=>?_;refine aB λI a w U=>?_;refine cz (λae=>?_) λae=>?_
 .refine bf ?_;exact gx (by simp[bM,ae])
 refine bD λI a w U=>?_;refine U.o (z8 .tt .c (λ_=>by simp[cM,aJ] at ae;omega)) λU=>?_;refine bf ?_;exact gx (by simp[bM,ae])
def sI (n:Int):
 Fn prog 175 [AV.int n] (AV.int (bM n)):=by
 refine Fn.go 8 func175 ntmps175 (λW I a U=>?_);refine aG λI a w U=>?_;refine U.o (.c1 (tQ ..)) λU=>?_;refine aB λI a w U=>?_;refine cz (λae=>?_) λae=>?_
 .refine bf ?_;exact gx (by simp[bM,ae])
 refine bD λI a w U=>?_;refine U.o (z8 .tt .c (λ_=>by simp[cM,aJ] at ae;omega)) λU=>?_;refine bf ?_;exact gx (by simp[bM,ae])
def Dm (l:List aw):
 Fn prog 72 [bE l] (AV.bool (bT l)):=by
 refine Fn.go 27 func72 ntmps72 (λW I a U=>?_);refine cF λI a w U=>?_;refine St.lo (σ:=Nat×Int) (run 2 2 (5::(run 19 8 []))) ⟨λ⟨k,last⟩=>[(8,AV.int k),(3,AV.int last)],λ⟨k,last⟩=>[],λ⟨k,last⟩=>k<=l.length/\bT l=ez last (l.drop k)/\-1<=last/\last<=5⟩ (λ⟨k,last⟩=>l.length-k) (0,-1) U ?aI ?bF;case aI=>exact⟨by simp,rfl,by omega,by omega⟩
 rintro⟨k,last⟩ I a w ao U;obtain⟨hk,hd,hl1,qj⟩:=ao;have hle:=U.eE (t:=0) rfl;refine aB λI a w U=>?_;refine cz (λae=>?_) λae=>?_
 .refine aG λI a w U=>?_;refine U.alloc rfl cW gX λb5 I a w U=>?_;refine aB λI a w U=>?_;obtain⟨I,U⟩:=U.fb 0 5;refine bx λI a w U=>?_;refine U.o (.cl (jI ..)) λU=>?_;refine bx λI a w U=>?_;refine U.q .F (.cl (AT ..)) λU=>?_;refine aF λI a w U=>?_;refine cz (λah=>?_) λah=>?_
  .refine bf ?_;exact bB (by rw[hd,mN ae];simp only[ez];rcases ah with h|h<;>simp[h])
  refine cF λI a w U=>?_;have U:=U.drop 0;exact U.ag (k+1,(ab l k).key) (by(rw[hd,mN ae];simp[ez,ah,aJ];simp[aJ] at ah;omega))
 refine zt ?_;refine bf ?_;exact bB (by rw[hd,List.drop_eq_nil_of_le om];rfl)
def Gj (a b:aw):
 Fn prog 157 [a.av,b.av] (AV.bool (eQ a b)):=by
 refine Fn.go 24 func157 ntmps157 (λW I a U=>?_);refine Q0 λI a w U=>?_;refine U.q .T2 (.cl (K4 ..)) λU=>?_;refine tO ?_;rfl
def adR (n:Int):eF (n-10)=aJ n 10 11:=by
 simp only[eF,aJ];rw[Bool.eq_iff_iff];simp;omega
def K5 (l:List aw) (k:Nat):(!du (ab l k).key||!dB (ab l k).ar||(decide (0<(k:Int))&&!eQ (ab l ((k:Int)-1).toNat) (ab l k)))=!fO kO eQ l k:=by
 rw[<-wD];simp[kO]
def Tl (l:List aw) (k:Nat):(!du (ab l k).key||!dB (ab l k).ar||(decide (0<(k:Int))&&(decide ((ab l k).key<(ab l ((k:Int)-1).toNat).key)||((ab l ((k:Int)-1).toNat).key==(ab l k).key&&!bQ (ab l ((k:Int)-1).toNat).ar (ab l k).ar))))=!fO kO eQ l k:=by
 rw[<-K5];congr 2;generalize ab l ((k:Int)-1).toNat=p;generalize ab l k=q;simp only[eQ];rcases Int.lt_trichotomy p.key q.key with h|h|h
 .have h1:¬q.key<p.key:=by omega
  have h2:(p.key==q.key)=false:=by simp;omega
  simp[h,h1,h2]
 .simp[h]
 have h1:¬p.key<q.key:=by omega
 have h2:(p.key==q.key)=false:=by simp;omega
 simp[h,h1,h2]
def K6 (l:List aw):
 Fn prog 140 [bE l] (AV.bool (gz l)):=by
 refine Fn.go 40 func140 ntmps140 (λW I a U=>?_);have hle:=U.eE (t:=0) rfl;refine aX λI a w U=>?_;refine St.lo (σ:=Nat) (run 3 2 (run 30 7 [])) ⟨λk=>[(7,AV.int k)],λk=>[],λk=>k<=l.length/\∀i,i<k->(fO kO eQ l) i=true⟩ (λk=>l.length-k) 0 U ?aI ?bF;case aI=>exact⟨by simp,λi hi=>by omega⟩
 rintro k I a w ao U;obtain⟨hk,aM⟩:=ao;refine aB λI a w U=>?_;refine cz (λae=>?_) λae=>?_
 .refine bk λI a w U=>?_;refine U.alloc rfl cW gX λb4 I a w U=>?_;refine aF λI a w U=>?_;obtain⟨I,U⟩:=U.fb 0 4;refine U.dk ?_;refine cG ?_;refine .o (.c1 (CG ..)) ?_;refine eb ?_;refine .q .F (.cl (AT ..)) ?_;refine Fu ?_;refine .q .T2 (.cl (Gj ..)) ?_;refine dO ?_;refine .nil ?_;intro I a w U;refine bm ?_;refine U.cd (λah=>?_) λah=>?_
  .rw[K5] at ah;replace ah:=nt ah;refine bf ?_;exact bB (by unfold gz;rw[eI (f:=(fO kO eQ l)) ae ah];simp)
  rw[K5] at ah;replace ah:=nf ah;refine aF λI a w U=>?_;have U:=U.drop 0;exact U.ag (k+1) (⟨by omega,eY aM ah⟩)
 refine zt ?_;refine aX λI a w U=>?_;refine U.rt ?_;exact bB (by unfold gz;rw[eX aM om,Bool.and_true];simp;try omega)
def K7 (l:List aw):
 Fn prog 172 [bE l] (AV.bool (gz l)):=by
 refine Fn.go 66 func172 ntmps172 (λW I a U=>?_);have hle:=U.eE (t:=0) rfl;refine aX λI a w U=>?_;refine cz (λae=>?_) λae=>?_
 .refine bf ?_;exact bB (by simp[gz];omega)
 refine aB λI a w U=>?_;refine St.lo (σ:=Nat) (run 3 2 (run 58 8 [])) ⟨λk=>[(3,AV.int k)],λk=>[],λk=>k<=l.length/\∀i,i<k->(fO kO eQ l) i=true⟩ (λk=>l.length-k) 0 U ?aI ?bF;case aI=>exact⟨by simp,λi hi=>by omega⟩
 rintro k I a w ao U;obtain⟨hk,aM⟩:=ao;refine aX λI a w U=>?_;refine cz (λah=>?_) λah=>?_
 .refine bx λI a w U=>?_;refine U.alloc rfl cW gX λb4 I a w U=>?_;refine aB λI a w U=>?_;obtain⟨I,U⟩:=U.fb 0 4;refine U.dk ?_;refine cG ?_;refine .o (.c1 (wR ..)) ?_;refine eb ?_;refine .q .F (.cl (yl ..)) ?_;refine pL ?_;refine pL ?_;refine cG ?_;refine .q .T2 (.cl (Ar ..)) ?_;refine fZ ?_;refine .nil ?_;intro I a w U;refine bm ?_;refine U.cd (λaq=>?_) λaq=>?_
  .rw[Tl] at aq;replace aq:=nt aq;refine bf ?_;exact bB (by unfold gz;rw[eI (f:=(fO kO eQ l)) ah aq];simp)
  rw[Tl] at aq;replace aq:=nf aq;refine aR λI a w U=>?_;have U:=U.drop 0;exact U.ag (k+1) (⟨by omega,eY aM aq⟩)
 refine zt ?_;refine bf ?_;exact bB (by unfold gz;rw[eX aM om,Bool.and_true];simp;omega)
def Dn {α:Type} (p:α->Bool) (l:List α):df p l<(l.length:Int)\/df p l=-1:=by
 unfold df;split
 .rename_i k h;have:=(List.findIdx?_eq_some_iff_getElem.1 h).1;left;omega
 right;rfl
def adS (l:List (aw)) (p:(aw)->Bool) (fv:AV) (hf:∀x:aw,x∈l->lh prog fv [x.av] (AV.bool (p x))):
 Fn prog 282 [bE l,fv] (AV.int (df p l)):=by
 refine Fn.go 19 func282 ntmps282 (λW I a U=>?_);have hle:=U.eE (t:=0) rfl;refine aX λI a w U=>?_;refine St.lo (σ:=Nat) (run 2 4 (run 11 8 [])) ⟨λk=>[(8,AV.int k)],λk=>[],λk=>k<=l.length/\∀i,i<k->p (ab l i)=false⟩ (λk=>l.length-k) 0 U ?aI ?bF;case aI=>exact⟨Nat.zero_le _,λi hi=>by omega⟩
 rintro k I a w ao U;obtain⟨hk,aM⟩:=ao;refine aB λI a w U=>?_;refine cz (λae=>?_) λae=>?_
 .refine g9 λI a w U=>?_;refine U.o (qp (hf _ (bh ae)) .tt (ax .tt aH)) λU=>?_;refine zt ?_;refine U.cd (λah=>?_) λah=>?_
  .refine c8 ?_;exact gx (nB ae aM ah).symm
  refine aF λI a w U=>?_;exact U.ag (k+1) (⟨ae,λi h1=>by rcases Nat.lt_succ_iff_lt_or_eq.1 h1 with h|h;exact aM i h;rw[h];exact ah⟩)
 refine zt ?_;refine bf ?_;exact gx (mS om aM).symm
def adT (l:List (az)) (p:(az)->Bool) (fv:AV) (hf:∀x:az,x∈l->lh prog fv [x.av] (AV.bool (p x))):
 Fn prog 144 [dM l,fv] (AV.int (df p l)):=by
 refine Fn.go 19 func144 ntmps144 (λW I a U=>?_);have hle:=U.eE (t:=0) rfl;refine aX λI a w U=>?_;refine St.lo (σ:=Nat) (run 2 4 (run 11 8 [])) ⟨λk=>[(8,AV.int k)],λk=>[],λk=>k<=l.length/\∀i,i<k->p (ab l i)=false⟩ (λk=>l.length-k) 0 U ?aI ?bF;case aI=>exact⟨Nat.zero_le _,λi hi=>by omega⟩
 rintro k I a w ao U;obtain⟨hk,aM⟩:=ao;refine aB λI a w U=>?_;refine cz (λae=>?_) λae=>?_
 .refine g9 λI a w U=>?_;refine U.o (qp (hf _ (bh ae)) .tt (ax .tt aH)) λU=>?_;refine zt ?_;refine U.cd (λah=>?_) λah=>?_
  .refine c8 ?_;exact gx (nB ae aM ah).symm
  refine aF λI a w U=>?_;exact U.ag (k+1) (⟨ae,λi h1=>by rcases Nat.lt_succ_iff_lt_or_eq.1 h1 with h|h;exact aM i h;rw[h];exact ah⟩)
 refine zt ?_;refine bf ?_;exact gx (mS om aM).symm
def adU (l:List (List aw)) (p:(List aw)->Bool) (fv:AV) (hf:∀x:List aw,x∈l->lh prog fv [bE x] (AV.bool (p x))):
 Fn prog 148 [j8 l,fv] (AV.int (df p l)):=by
 refine Fn.go 19 func148 ntmps148 (λW I a U=>?_);have hle:=U.eE (t:=0) rfl;refine aX λI a w U=>?_;refine St.lo (σ:=Nat) (run 2 4 (run 11 8 [])) ⟨λk=>[(8,AV.int k)],λk=>[],λk=>k<=l.length/\∀i,i<k->p (ab l i)=false⟩ (λk=>l.length-k) 0 U ?aI ?bF;case aI=>exact⟨Nat.zero_le _,λi hi=>by omega⟩
 rintro k I a w ao U;obtain⟨hk,aM⟩:=ao;refine aB λI a w U=>?_;refine cz (λae=>?_) λae=>?_
 .refine g9 λI a w U=>?_;refine U.o (qp (hf _ (bh ae)) .tt (ax .r aH)) λU=>?_;refine zt ?_;refine U.cd (λah=>?_) λah=>?_
  .refine c8 ?_;exact gx (nB ae aM ah).symm
  refine aF λI a w U=>?_;exact U.ag (k+1) (⟨ae,λi h1=>by rcases Nat.lt_succ_iff_lt_or_eq.1 h1 with h|h;exact aM i h;rw[h];exact ah⟩)
 refine zt ?_;refine bf ?_;exact gx (mS om aM).symm
def Tm (l:List (aw)) (p:(aw)->Bool) (fv:AV) (hf:∀x:aw,x∈l->lh prog fv [x.av] (AV.bool (p x))):
 Fn prog 223 [bE l,fv] (AV.bool (hasB p l)):=by
 refine Fn.go 9 func223 ntmps223 (λW I a U=>?_);refine bk λI a w U=>?_;refine U.o (.cl (adS _ _ _ hf)) λU=>?_;refine c8 ?_;rfl
def adV (l:List (az)) (p:(az)->Bool) (fv:AV) (hf:∀x:az,x∈l->lh prog fv [x.av] (AV.bool (p x))):
 Fn prog 67 [dM l,fv] (AV.bool (hasB p l)):=by
 refine Fn.go 9 func67 ntmps67 (λW I a U=>?_);refine bk λI a w U=>?_;refine U.o (.cl (adT _ _ _ hf)) λU=>?_;refine c8 ?_;rfl
def adW (l:List (List aw)) (p:(List aw)->Bool) (fv:AV) (hf:∀x:List aw,x∈l->lh prog fv [bE x] (AV.bool (p x))):
 Fn prog 70 [j8 l,fv] (AV.bool (hasB p l)):=by
 refine Fn.go 9 func70 ntmps70 (λW I a U=>?_);refine bk λI a w U=>?_;refine U.o (.cl (adU _ _ _ hf)) λU=>?_;refine c8 ?_;rfl
def adX (s:Server) (key:Int) (hk:du key=true) (hl:s.aD.length=3):
 Fn prog 252 [s.av,AV.int key] (AV.bool (cP s key !=0)):=by
 refine Fn.go 13 func252 ntmps252 (λW I a U=>?_);have hr:=sj hk;refine aF λI a w U=>?_;refine U.dk ?_;refine dO ?_;refine .o (.c1 (wT ..)) ?_;refine fZ ?_;refine .nil ?_;intro I a w U;refine zt ?_;refine U.rt ?_;rfl
def K8 (s:Server) (v:aA):
 Fn prog 142 [s.av,v.av] (AV.bool (bM v.ar.site !=bM s.site)):=by
 refine Fn.go 13 func142 ntmps142 (λW I a U=>?_);refine aR λI a w U=>?_;refine U.dk ?_;refine dO ?_;refine .o (.c1 (AU ..)) ?_;refine cG ?_;refine .o (.c1 (AU ..)) ?_;refine cG ?_;refine .nil ?_;intro I a w U;refine zt ?_;refine U.rt ?_;rfl
def nI (a b:Int):Bool:=decide (a<b)
def jZ (l:List Int):Bool:=cI l.length (fO du nI l)
def fU (c:Call):Bool:=jZ c.keys&&((c.kind==1&&((c.keys.length:Int)==1))||(c.kind==2&&aJ c.keys.length 1 3))
def gZ (a b:Answer):Bool:=decide (a.key<b.key)
def qR (c:Call):Bool:=(c.au.length:Int)==c.keys.length
def oX (c:Call) (time:Int):Bool:=if c.end_=0 then dw c.ar else !(c.over||!aJ c.end_ (c.bH+1) time||decide (0<(c.aL.length:Int)))&&((c.kind==1&&!dw c.ar)||(!(c.kind==1)&&qR c))
def K9 {n:Int}:du n=true↔0<=n/\n<=5:=by simp[du,aJ]
def Tn (l:List Int) (k:Nat):(!du (ab l k)||(decide (0<(k:Int))&&decide (ab l k<=ab l ((k:Int)-1).toNat)))=!fO du nI l k:=by
 rw[<-wD];have e:decide (ab l k<=ab l ((k:Int)-1).toNat)=!nI (ab l ((k:Int)-1).toNat) (ab l k):=by rw[Bool.eq_iff_iff];simp[nI]
 rw[e]
def AW {l:List Int} (h:jZ l=true) {n:Int} (hn:n∈l):du n=true:=by
 obtain⟨k,hk,rfl⟩:=fS hn;have:=(gF.1 h) k hk;unfold fO at this;rw[Bool.and_eq_true] at this;exact this.1
def yO (c:Call):Bool:=!(decide ((c.keys.length:Int)<1)||decide (3<(c.keys.length:Int))||((c.kind==1)&&((c.keys.length:Int) !=1)))&&jZ c.keys
def To (c:Call):(aJ c.kind 1 2&&yO c)=fU c:=by
 unfold yO fU;cases jZ c.keys
 .simp
 rw[Bool.eq_iff_iff];simp[aJ];omega
def sJ (c:Call) (time:Int):Bool:=!(!aJ c.aj 0 1||!aJ c.num 1 99||!aJ c.kind 1 2||!yO c||!aJ c.val 0 9999||!bT c.ctx||!bT c.aL||!aJ c.bH 1 time)
def mH (d k:Call):Bool:=(d.aj==k.aj)&&!d.over&&((d.end_==0)||decide (k.bH<=d.end_))
def yP (m:az):Bool:=!bK m
def m9 (x:Int) (d:Call):Bool:=d.aj==x
def iF (l:List Call) (i:Nat) (x:Int):Int:=df (m9 x) (l.drop (i+1))
def oj (w:ai) (i:Nat):List aw:=if 0<=iF w.calls i (ab w.calls i).aj then(ab w.calls (i+1+(iF w.calls i (ab w.calls i).aj).toNat)).ctx else ab w.seen (ab w.calls i).aj.toNat
def pT (s:Server) (l:List aA) (i:Nat):Bool:=cP s (ab l i).key !=0
def yQ (s:Server) (i:Nat):Bool:=!((decide (0<=placeOf s.an (ab s.waits i).aU))||(bM (ab s.waits i).ar.site==bM s.site))
def adY (s:Server) (i:Nat):tW s i=(pT s s.waits i&&yQ s i):=by
 unfold tW vo pT yQ;have e:decide (placeOf s.an (ab s.waits i).aU<0)=!decide (0<=placeOf s.an (ab s.waits i).aU):=by rw[Bool.eq_iff_iff];simp
 rw[e];cases(cP s (ab s.waits i).key !=0)<;>cases decide (0<=placeOf s.an (ab s.waits i).aU)<;>simp[bne]
def Tp (s:Server) (i:Nat) (hc:ct s.an=true):((lq s.an ⟨(ab s.waits i).key,(ab s.waits i).ar⟩).isSome||(bM (ab s.waits i).ar.site==bM s.site))=!yQ s i:=by
 rw[Au hc];show _=!!(_||_);rw[Bool.not_not];rfl
def Tq (s:Server) (l:List aA) (hl:s.aD.length=3) (hc:ct l=true):
 Fn prog 173 [s.av,bU l] (AV.bool (cI l.length (pT s l))):=by
 refine Fn.go 20 func173 ntmps173 (λW I a U=>?_);have hle:=U.eE (t:=1) rfl;refine aR λI a w U=>?_;refine St.lo (σ:=Nat) (run 16 4 []) ⟨λk=>[(5,AV.int k)],λk=>[],λk=>k<=l.length/\∀i,i<k->(pT s l) i=true⟩ (λk=>l.length-k) 0 U ?aI ?bF;case aI=>exact⟨Nat.zero_le _,λi hi=>by omega⟩
 rintro k I a w ao U;obtain⟨mU,aM⟩:=ao;refine aX λI a w U=>?_;refine cz (λae=>?_) λae=>?_
 .refine zt ?_;refine U.dk ?_;refine iA ?_;refine .o (.c2 (adX _ _ (si (wU hc ae)) hl)) ?_;refine bG ?_;refine .nil ?_;intro I a w U;refine bm ?_;refine U.cd (λah=>?_) λah=>?_
  .replace ah:=nt ah;refine bf ?_;exact bB (eI (f:=pT s l) ae ah).symm
  replace ah:=nf ah;refine aR λI a w U=>?_;exact U.ag (k+1) (⟨by omega,eY aM ah⟩)
 refine zt ?_;refine bf ?_;exact bB (eX aM om).symm
def pU {l:List aA} (h:ct l=true):VS l:=by
 unfold ct at h;rw[Bool.and_eq_true,gF] at h;refine RI (R:=λa b=>fP a b=true) (λh1 h2=>Av h1 h2) λi h0 hi=>?_;have:=h.2 i hi;unfold fO at this;rw[Bool.and_eq_true,Bool.or_eq_true,decide_eq_true_eq] at this;rcases this.2 with h3|h3
 .omega
 exact h3
def calm (s:Server):Bool:=s.up&&!decide (0<((s.waits.length:Int)+s.aE.length)+s.ba.length)&&!hasB (λx:de=>x.cm==2) s.aD
def ui (x y:de):Bool:=(x.cm==1)&&(y.cm !=1)&&decide (y.bw<=x.bw)&&((y.cm !=2)||(y.bw==x.bw))
def La:∀{l:List cE} {t:Int},0<=t->t<=9999->(∀s∈l,dB s=true)->0<=l.foldl (λt s=>if t<s.time then s.time else t) t/\l.foldl (λt s=>if t<s.time then s.time else t) t<=9999
 |[],t,h0,h1,_=>⟨h0,h1⟩
 |s::l,t,h0,h1,h=>by
  have U:=h s bn;simp[dB,aJ] at U;rw[List.foldl_cons];split
  .exact La om om λx hx=>h x (by simp[hx])
  exact La h0 h1 λx hx=>h x (by simp[hx])
def pV (key:Int) (v:aA):Bool:=v.key==key
def dY (l:List aA) (key:Int):Option aA:=l.reverse.find? (pV key)
def Tr {l:List aA} {key:Int} {k:Nat} (hk:k<l.length) (h:∀i,k<i->i<l.length->pV key (ab l i)=false) (hp:pV key (ab l k)=true):dY l key=some (ab l k):=by
 unfold dY;rw[List.find?_eq_some_iff_getElem];refine⟨hp,l.length-1-k,by simp;omega,?_,λj hj=>?_⟩
 .rw[List.getElem_reverse];simp[ab];rw[List.getElem?_eq_getElem hk];simp;congr 1;omega
 rw[List.getElem_reverse];have:=h (l.length-1-j) om om;have e:l[l.length-1-j]'om=ab l (l.length-1-j):=by unfold ab;rw[List.getD_eq_getElem?_getD,List.getElem?_eq_getElem om];rfl
 rw[e,this];rfl
def Ts {l:List aA} {key:Int} (h:∀i,i<l.length->pV key (ab l i)=false):dY l key=none:=by
 unfold dY;rw[List.find?_eq_none];intro x hx;obtain⟨k,hk,rfl⟩:=fS (List.mem_reverse.1 hx);rw[h k hk];simp
def uj {l:List aA} {key:Int} {v:aA} (h:dY l key=some v):v∈l/\v.key=key:=by
 unfold dY at h;have h1:=List.mem_of_find?_eq_some h;have h2:=List.find?_some h;exact⟨List.mem_reverse.1 h1,by simpa[pV] using h2⟩
def eA (l:List aw) (d:aw):List aw:=if 0<=fy l d then l else lM l d
def Tt (e d:aw):(decide (d.key<e.key)||((e.key==d.key)&&bQ d.ar e.ar))=eQ d e:=by
 unfold eQ;by_cases h:e.key=d.key
 .simp[h]
 have e1:(e.key==d.key)=false:=by simpa using h
 have e2:(d.key==e.key)=false:=by simpa usingλx=>h x.symm
 rw[e1,e2]
def fB (s:Server) (m:az):List cE:=m.aQ.map aw.ar++(match dY s.an m.key with|some v=>[v.ar]|none=>[])
def uk (s:Server) (m:az):Bool:=cM m.aT&&(bM m.aT !=bM s.site)&&decide (m.an.length=1)&&fE s (ab m.an 0).key&&(bM (ab m.an 0).ar.site !=bM s.site)
def kz (s:Server) (asked:List aw) (d:aw):List aw:=if eG s d||decide (0<=fy asked d) then asked else asked++[d]
def vF (s:Server):List aw:=(s.waits.map aA.aQ).flatten.foldl (kz s) []
def j9 (s:Server) (slot:Int):Server:={s with aD:=s.aD.set slot.toNat ⟨(ab s.aD slot.toNat).bw+1,2⟩}
def jq (q:Call) (m:az):List az:=[{m with aT:=10+q.aj,to:=2*q.aj,call:=q.num},{m with aT:=10+q.aj,to:=2*q.aj+1,call:=q.num}]
def bV (q:Call):Bool:=(q.end_==0)&&!q.over
def kV (q:Call) (time:Int):Call:=if q.aL=[] then{q with end_:=time} else q
def eN (al more:List az):List az:=al++more.take (60-al.length)
def sK (aj:Int) (q:Call):Bool:=(q.aj==aj)&&(q.end_==0)&&!q.over
def cq (calls:List Call) (aj:Int):Int:=df (sK aj) calls
def eZ (e:Ev):List Int:=e.a::(if e.call=2/\e.a<e.b then e.b::(if e.b<e.c then[e.c] else[]) else[])
def Lb:ai:=⟨0,[],[],[],[]⟩
def Lc (l:List aw) (d:aw) (hl:bT l=true):
 Fn prog 192 [bE l,d.av] (bE (gI l d)):=by
 refine Fn.go 53 func192 ntmps192 (λW I a U=>?_);have Dp:=iV hl;have U:=U.ik (sz:=3) 125;refine jW λI a w U=>?_;refine St.lo (σ:=Nat×Bool×List aw×Value) (run 2 5 (8::(run 35 11 []))) ⟨λ⟨k,done,out,v⟩=>[(11,AV.int k),(6,AV.bool done),(5,AV.val v)],λ⟨k,done,out,v⟩=>[Own.row v 125 3 (out.map aw.cells)],λ⟨k,done,out,v⟩=>lL l d k done out⟩ (λ⟨k,done,out,v⟩=>l.length-k) (0,false,[],.slice none 0 0) U ?aI ?bF;case aI=>exact lL.zero l d
 rintro⟨k,done,out,v⟩ I a w ao U;have hp:lL l d k done out:=ao;have hk:=hp.hk;have lF:=hp.len;have tD:done.toNat<=1:=by cases done<;>simp
 dsimp only at U;refine aB λI a w U=>?_;refine cz (λae=>?_) λae=>?_
 .refine aG λI a w U=>?_;refine U.alloc rfl cW gX λb8 I a w U=>?_;refine jW λI a w U=>?_;refine cz (λah=>?_) λah=>?_
  .refine bx λI a w U=>?_;refine U.o (.c2 (K4 ..)) λU=>?_;refine zt ?_;refine cz (λaq=>?_) λaq=>?_
   .refine bY λI a w U=>?_;refine U.o (.li [d.cells] jk (.u .nil)) λU=>?_;refine U.ap 0 λwX a w U=>?_;rw[cJ] at U;refine aR λI a w U=>?_;have U:=U.drop 1;exact U.ag (k+1,true,out++[d],wX) (by have h:=(hp.same hl ae ah).2;rw[aq,if_pos rfl] at h;exact h)
   refine bk λI a w U=>?_;refine U.o (.li [(ab l k).cells] jk (.u .nil)) λU=>?_;refine U.ap 0 λwX a w U=>?_;rw[cJ] at U;refine aR λI a w U=>?_;have U:=U.drop 1;exact U.ag (k+1,true,out++[ab l k],wX) (by have h:=(hp.same hl ae ah).2;rw[aq] at h;exact h)
  refine yf λI a w U=>?_;refine cz (λaK=>?_) λaK=>?_
  .refine aG λI a w U=>?_;refine U.o (.li [d.cells] jk (.u .nil)) λU=>?_;refine U.ap 0 λTu a w U=>?_;rw[cJ] at U;refine bx λI a w U=>?_;refine U.o (.li [(ab l k).cells] jk (.u .nil)) λU=>?_;refine U.ap 0 λwX a w U=>?_;rw[cJ] at U;refine aR λI a w U=>?_;have U:=U.drop 1;exact U.ag (k+1,true,(out++[d])++[ab l k],wX) (by obtain⟨h1,h2⟩:=aK;subst h2;exact hp.before hl ae h1)
  refine aG λI a w U=>?_;refine U.o (.li [(ab l k).cells] jk (.u .nil)) λU=>?_;refine U.ap 0 λwX a w U=>?_;rw[cJ] at U;refine aR λI a w U=>?_;have U:=U.drop 1;exact U.ag (k+1,done,out++[ab l k],wX) (hp.step ae ah λhd=>by rcases aK with h|h;exact h;rw[hd] at h;cases h)
 refine zt ?_;refine aF λI a w U=>?_;refine cz (λaS=>?_) λaS=>?_
 .refine aG λI a w U=>?_;refine U.o (.li [d.cells] jk (.u .nil)) λU=>?_;refine U.ap 0 λv51 a w U=>?_;rw[cJ] at U;refine aR λI a w U=>?_;obtain⟨I,U⟩:=U.fr 0 4;refine U.rt ?_;exact congrArg (AV.rows 3) (by subst aS;exact hp.vq om▸rfl)
 refine aF λI a w U=>?_;obtain⟨I,U⟩:=U.fr 0 4;refine U.rt ?_;exact congrArg (AV.rows 3) (by subst aS;rw[hp.vp om])
def Tv (q:Call):
 Fn prog 228 [q.av] (AV.bool (qR q)):=by
 refine Fn.go 10 func228 ntmps228 (λW I a U=>?_);refine yf λI a w U=>?_;refine U.rt ?_;rfl
def Gk (s:cE):([s.time,s.site] !=[0,0])=!dw s:=by
 rw[Bool.eq_iff_iff];simp[dw];omega
def adZ (q:Call):
 Fn prog 246 [q.av] (AV.bool (yO q)):=by
 refine Fn.go 57 func246 ntmps246 (λW I a U=>?_);have lens:q.keys.length<=9223372036854775807/\q.au.length<=9223372036854775807/\q.aL.length<=9223372036854775807:=⟨U.ln 0 3,U.ln 0 11,U.ln 0 12⟩;refine Ft λI a w U=>?_;refine U.cd (λae=>?_) λae=>?_
 .refine bf ?_;exact bB (by unfold yO;rw[ae];rfl)
 refine aB λI a w U=>?_;refine St.lo (σ:=Nat) (run 2 2 (run 32 25 [])) ⟨λk=>[(3,AV.int k)],λk=>[],λk=>k<=q.keys.length/\∀i,i<k->(fO du nI q.keys) i=true⟩ (λk=>q.keys.length-k) 0 U ?aI ?bF;case aI=>exact⟨Nat.zero_le _,λi hi=>by omega⟩
 rintro k I a w ao U;obtain⟨mU,aM⟩:=ao;refine cF λI a w U=>?_;refine cz (λah=>?_) λah=>?_
 .refine zt ?_;refine U.dk ?_;refine fZ ?_;refine .o (.c1 (wR ..)) ?_;refine pL ?_;refine dO ?_;refine .nil ?_;intro I a w U;refine bm ?_;refine U.cd (λaq=>?_) λaq=>?_
  .rw[Tn] at aq;replace aq:=nt aq;refine bf ?_;exact bB (by unfold yO jZ;rw[eI (f:=fO du nI q.keys) ah aq];simp)
  rw[Tn] at aq;replace aq:=nf aq;refine aR λI a w U=>?_;exact U.ag (k+1) (⟨by omega,eY aM aq⟩)
 refine zt ?_;refine bf ?_;exact bB (by unfold yO jZ;rw[ae,eX aM om];rfl)
def Tw {q:Call} {time:Int} (h:sJ q time=true):1<=q.bH/\q.bH<=time/\q.aL.length<=6:=by
 simp only[sJ,Bool.not_eq_true',Bool.or_eq_false_iff] at h;have h1:=h.2;have h2:=h.1.2;simp at h2;have:=iV h2;simp[aJ] at h1;omega
def Tx {d q:Call} (h:d.aj=q.aj):(!d.over&&((d.end_==0)||decide (q.bH<=d.end_)))=mH d q:=by
 unfold mH;rw[h];simp
def ad0 {d q:Call} (h:¬d.aj=q.aj):mH d q=false:=by
 unfold mH;simp[h]
def Dq (l:List az):(!hasB yP l)=cI l.length λi=>bK (ab l i):=by
 rw[ym];exact Ac rfl λi _=>by simp[yP]
def yR {α β:Type} [Inhabited β] {f:α->β->α} {z:α} {l:List β} {k:Nat} (h:k<l.length):(l.take (k+1)).foldl f z=f ((l.take k).foldl f z) (ab l k):=by
 rw[fe h,List.foldl_append];rfl
def yS {q:Call} (h:fU q=true) (hk:q.kind=1):0<q.keys.length:=by
 unfold fU at h;rw[Bool.and_eq_true] at h;have:=h.2;simp[hk] at this;omega
def Tz {x:ai} {k:Nat} (h:0<=df (m9 (ab x.calls k).aj) (x.calls.drop (k+1))):(ab x.calls ((k:Int)+1+df (m9 (ab x.calls k).aj) (x.calls.drop (k+1))).toNat).ctx=oj x k:=by
 unfold oj iF;rw[if_pos h,show((k:Int)+1+df (m9 (ab x.calls k).aj) (x.calls.drop (k+1))).toNat=k+1+(df (m9 (ab x.calls k).aj) (x.calls.drop (k+1))).toNat by omega]
def TA {x:ai} {k:Nat} (h:df (m9 (ab x.calls k).aj) (x.calls.drop (k+1))<0):ab x.seen (ab x.calls k).aj.toNat=oj x k:=by
 unfold oj iF;rw[if_neg om]
def ad1 (d q:Call):
 Fn prog 94 [d.av,AV.ptr q.cells] (AV.bool (m9 q.aj d)):=by
 refine Fn.go 9 func94 ntmps94 (λW I a U=>?_);refine pJ λI a w U=>?_;refine U.rt ?_;rfl
def xi (l:List aA):Prop:=l.length<=1048576/\∀v∈l,v.aQ.length<=1048576
def ly (m:az):Prop:=m.aQ.length<=1048576/\xi m.an/\xi m.waits/\m.aE.length<=1048576
def um (s:Server):Prop:=s.aD.length<=1048576/\xi s.an/\xi s.waits/\s.aE.length<=1048576/\s.ba.length<=1048576
def xj {l:List aA} (h:ct l=true):xi l:=⟨by have:=ga h;omega,λv hv=>by have:=iV (Kf (fw h v hv));omega⟩
def TB (m:az) (h:ly m):
 Fn prog 244 [m.av] (m.av):=by
 refine Fn.go 22 func244 ntmps244 (λW I a U=>?_);obtain⟨h1,⟨h2,h3⟩,⟨h4,h5⟩,h6⟩:=h;refine sr<|U.box rfl .tt λb1 I a w U=>U.alloc rfl dV eU λb2 I a w U=>?_;refine zt ?_;refine U.l0 λb3 I a w U=>?_;refine aG λI a w U=>?_;refine U.ap 2 λv6 a w U=>?_;obtain⟨I,U⟩:=U.fr 2 6;refine bx λI a w U=>?_;refine U.o (.cl (yr m.an h2 h3)) λU=>?_;refine bx λI a w U=>?_;refine U.o (.cl (yr m.waits h4 h5)) λU=>?_;refine aF λI a w U=>?_;refine U.l0 λAR I a w U=>?_;refine aG λI a w U=>?_;refine U.ap 3 λss a w U=>?_;obtain⟨I,U⟩:=U.fr 3 19;refine aX λI a w U=>?_;refine U.ret rfl (.cons (.sx 1) aV.nil) ?_;rfl
def Ld (l:List az) (h:l.length<=1048576) (hd:∀y∈l,ly y):
 Fn prog 164 [dM l] (dM l):=by
 refine Fn.go 21 func164 ntmps164 (λW I a U=>?_);have hle:=U.eE (t:=0) rfl;refine aB λI a w U=>?_;refine U.l0 λb5 I a w U=>?_;refine aF λI a w U=>?_;refine St.lo (σ:=Nat×Value) (run 2 3 (run 14 6 [])) ⟨λ⟨k,v⟩=>[(4,AV.int k),(3,AV.val v)],λ⟨k,v⟩=>[Own.row v 108 15 ((l.take k).map az.cells)],λ⟨k,v⟩=>k<=l.length⟩ (λ⟨k,v⟩=>l.length-k) (0,.slice (some ⟨b5,0,none⟩) 0 0) U ?aI ?bF;case aI=>exact Nat.zero_le _
 rintro⟨k,v⟩ I a w ao U;have hk:k<=l.length:=ao;dsimp only at U;refine aX λI a w U=>?_;refine cz (λae=>?_) λae=>?_
 .refine bY λI a w U=>?_;refine U.o (.c1 (TB (ab l k) (hd _ (bh ae)))) λU=>?_;refine U.o (.li [(ab l k).cells] iN (.u .nil)) λU=>?_;refine U.ap 0 λss a w U=>?_;rw[cJ,<-fe ae] at U;refine aX λI a w U=>?_;exact U.ag (k+1,ss) (ae)
 refine zt ?_;refine aF λI a w U=>?_;obtain⟨I,U⟩:=U.fr 0 2;refine U.rt ?_;exact congrArg (AV.rows 15) (by rw[List.take_of_length_le om])
def Dr (s:Server) (h:um s):
 Fn prog 165 [s.av] (s.av):=by
 refine Fn.go 27 func165 ntmps165 (λW I a U=>?_);obtain⟨h1,⟨h2,h3⟩,⟨h4,h5⟩,h6,h7⟩:=h;refine sr<|U.box rfl .tt λb1 I a w U=>U.alloc rfl cA dS λb2 I a w U=>?_;refine zt ?_;refine U.l0 λb3 I a w U=>?_;refine aG λI a w U=>?_;refine U.ap 2 λv6 a w U=>?_;obtain⟨I,U⟩:=U.fr 2 6;refine bx λI a w U=>?_;refine U.o (.cl (yr s.an h2 h3)) λU=>?_;refine bx λI a w U=>?_;refine U.o (.cl (yr s.waits h4 h5)) λU=>?_;refine aF λI a w U=>?_;refine U.l0 λAR I a w U=>?_;refine aG λI a w U=>?_;refine U.ap 3 λss a w U=>?_;obtain⟨I,U⟩:=U.fr 3 19;refine aF λI a w U=>?_;refine U.l0 λDj I a w U=>?_;refine aG λI a w U=>?_;refine U.ap 4 λoh a w U=>?_;obtain⟨I,U⟩:=U.fr 4 24;refine aX λI a w U=>?_;refine U.ret rfl (.cons (.sx 1) aV.nil) ?_;rfl
def Gl (l:List aw) (h:l.length<=1048576):
 kQ prog 138 [bE l] 125 3 (l.map aw.cells):=by
 refine kQ.intro 5 func138 rfl ntmps138 rfl aO (λW I a U=>?_);refine aG λI a w U=>?_;have U:=U.ik (sz:=3) 125;refine U.append 0 rfl dX cW rfl .c .r rfl ig λv4 a w U=>?_;refine aB λI a w U=>?_;exact U.yb (r:=2) 0 rfl rfl rfl rfl
def Server.av5 (s:Server) (r:Value×Value×Value×Value×Value):AV:=.agg [.int s.site,.bool s.up,.val r.1,.val r.2.1,.val r.2.2.1,.val r.2.2.2.1,.val r.2.2.2.2]
def TC (l:List aA) (key:Int) (hc:ct l=true):
 Fn prog 334 [bU l,AV.int key] (AV.dG [((dY l key).getD default).av,AV.bool (dY l key).isSome]):=by
 refine Fn.go 31 func334 ntmps334 (λW I a U=>?_);have hle:=U.eE (t:=0) rfl;have CN:=ga hc;refine sr<|U.alloc rfl bL ee λb4 I a w U=>?_;refine aG λI a w U=>?_;refine U.o (.cl (wS ..)) λU=>?_;refine aB λI a w U=>?_;refine U.cd (λae=>?_) λae=>?_
 .exfalso;rw[hc] at ae;cases ae;skip
 refine aX λI a w U=>?_;refine St.lo (σ:=Nat) (run 2 5 (run 16 14 [])) ⟨λj=>[(6,AV.int ((j:Int)-1))],λj=>[Own.box b4 54 [AV.val (.int .i64 0),AV.val (.int .i64 0),AV.val (.int .i64 0),AV.val (.int .i64 0),AV.val (.int .i64 0),AV.val (.int .i64 0),AV.rows 3 []]],λj=>j<=l.length/\∀i,j<=i->i<l.length->pV key (ab l i)=false⟩ (λj=>j) l.length U ?aI ?bF;case aI=>exact⟨Nat.le_refl _,λi h1 h2=>by omega⟩
 rintro j I a w ao U;obtain⟨hk,aM⟩:=ao;refine aF λI a w U=>?_;refine cz (λah=>?_) λah=>?_
 .refine jW λI a w U=>?_;refine U.cd (λaq=>?_) λaq=>?_
  .refine bx λI a w U=>?_;refine U.o (bO (qB _ (by have:=ob hc _ (bh (k:=((j:Int)-1).toNat) om);omega)) (ax (.t rfl) aH)) λU=>?_;refine aF λI a w U=>?_;refine U.ret rfl (.cons (.sx 0) (.cons (.t rfl) aV.nil)) ?_;exact(by rw[Tr (k:=((j:Int)-1).toNat) om (λi h1 h2=>aM i om h2) aq];rfl)
  refine aR λI a w U=>?_;refine U.again (j-1) ?hO ?hP dR ?hZ (by repeat(first|exact Env.le_rfl|refine Env.iy rfl ?_));case hO=>omega
  case hP=>exact⟨by omega,λi h1 h2=>by by_cases h:i=((j:Int)-1).toNat;(subst h;exact aq);exact aM i om h2⟩
  case hZ=>exact(Env.dA rfl (by first|rfl|exact congrArg AV.int om) Env.le_nil)
 refine zt ?_;refine U.o (.bd ee aZ.nil) λU=>?_;refine aF λI a w U=>?_;refine U.ret rfl (.cons (.sx 0) (.cons (.t rfl) aV.nil)) ?_;exact(by rw[Ts λi h=>aM i om h];rfl)
def Le (l:List aw) (d:aw) (h:l.length<=1048575):
 Fn prog 336 [bE l,d.av] (bE (eA l d)):=by
 refine Fn.go 72 func336 ntmps336 (λW I a U=>?_);refine bx λI a w U=>?_;refine U.o (.cl (CO ..)) λU=>?_;refine aB λI a w U=>?_;refine cz (λae=>?_) λae=>?_
 .refine zt ?_;refine U.l0 λxk I a w U=>?_;refine U.m λU=>?_;refine U.ap 0 λm8 a w U=>?_;obtain⟨I,U⟩:=U.fr 0 14;refine bf ?_;exact congrArg (AV.rows 3) (by unfold eA;rw[if_pos ae];rfl)
 refine zt ?_;refine U.l0 λLf I a w U=>?_;refine aR λI a w U=>?_;refine St.lo (σ:=Nat×Bool×List aw×Value) (run 3 5 (run 49 16 [])) ⟨λ⟨k,done,out,u⟩=>[(7,AV.int k),(6,AV.bool done),(5,AV.val u)],λ⟨k,done,out,u⟩=>[Own.row u 125 3 (out.map aw.cells)],λ⟨k,done,out,u⟩=>n9 l d k done out⟩ (λ⟨k,done,out,u⟩=>l.length-k) (0,false,[],.slice (some ⟨Lf,0,none⟩) 0 0) U ?aI ?bF;case aI=>exact n9.zero l d
 rintro⟨k,done,out,u⟩ I a w ao U;have hp:n9 l d k done out:=ao;have hk:=hp.hk;have lF:=hp.len;have tD:done.toNat<=1:=by cases done<;>simp
 dsimp only at U;refine aX λI a w U=>?_;refine cz (λah=>?_) λah=>?_
 .refine zt ?_;refine U.dk ?_;refine pL ?_;refine Fu ?_;refine .q .T2 (.cl (Ar ..)) ?_;refine dO ?_;refine .nil ?_;intro I a w U;refine bm ?_;refine U.cd (λaq=>?_) λaq=>?_
  .rw[Tt] at aq;simp only[B] at aq;refine aG λI a w U=>?_;refine U.o (.li [d.cells] jk (.u .nil)) λU=>?_;refine U.ap 0 λv57 a w U=>?_;rw[cJ] at U;refine g9 λI a w U=>?_;refine U.o (.li [(ab l k).cells] jk (.u .nil)) λU=>?_;refine U.ap 0 λLg a w U=>?_;rw[cJ] at U;refine aX λI a w U=>?_;exact U.ag (k+1,true,(out++[d])++[ab l k],Lg) (by obtain⟨h1,h2⟩:=aq;subst h1;exact hp.before ah h2)
  rw[Tt] at aq;simp only[B] at aq;refine bY λI a w U=>?_;refine U.o (.li [(ab l k).cells] jk (.u .nil)) λU=>?_;refine U.ap 0 λLg a w U=>?_;rw[cJ] at U;refine aX λI a w U=>?_;exact U.ag (k+1,done,out++[ab l k],Lg) (hp.step ah (by simpa using aq))
 refine zt ?_;refine aF λI a w U=>?_;refine cz (λaK=>?_) λaK=>?_
 .refine aG λI a w U=>?_;refine U.o (.li [d.cells] jk (.u .nil)) λU=>?_;refine U.ap 0 λv70 a w U=>?_;rw[cJ] at U;refine aR λI a w U=>?_;obtain⟨I,U⟩:=U.fr 0 4;refine U.rt ?_;exact congrArg (AV.rows 3) (by subst aK;unfold eA;rw[if_neg om];exact hp.vq om▸rfl)
 refine aF λI a w U=>?_;obtain⟨I,U⟩:=U.fr 0 4;refine U.rt ?_;exact congrArg (AV.rows 3) (by subst aK;unfold eA;rw[if_neg om,hp.vp om])
def fK.small {s:Server} (h:fK s) (ho:s.aE.length<=1048576):um s:=⟨by have:=h.aD;omega,xj h.an,xj h.waits,ho,by have:=h.ba;omega⟩
def fK.Lh {s:Server} (h:fK s):fK (ir s):=by
 have:∀(n:Nat) (s:Server),fK s->fK (jl n s):=by
  intro n;induction n with
  |zero=>exactλs h=>h
  |succ n ih=>
   intro s h
   unfold jl
   split
   .exact h
   exact ih _ (h.yv om)
 exact this _ _ h
def fK.settle {s:Server} (h:fK s):fK (ef s):=by
 have h2:=h.Lh;exact⟨h2.aD,h2.an,h2.waits,h2.apart,Nat.le_trans (List.length_filter_le _ _) h2.ba⟩
def TE {l:List aw} {d:aw} (h:0<=fy l d):(fy l d).toNat<l.length:=by
 unfold fy df at*;split at h
 .rename_i k hk;obtain⟨h1,_⟩:=List.findIdx?_eq_some_iff_getElem.1 hk;simpa using h1
 omega
def Ds {m:az} (h:bK m=true):du m.key=true:=by
 simp only[bK,Bool.and_eq_true] at h;exact h.1.1.1.1.1.1.1.1.2
def oY {l:List aw} {d:aw}:0<=fy l d↔d∈l:=by
 have:=CP (p:=λe=>decide (e=d)) (l:=l);unfold hasB at this;simp only[decide_eq_true_eq] at this;unfold fy;rw[this];exact⟨λ⟨x,hx,e⟩=>e▸hx,λh=>⟨d,h,rfl⟩⟩
def ad3 {s:Server} {v:aA} (h:iC s v=true):cP s v.key=1:=by
 unfold iC at h;rw[Bool.and_eq_true] at h;simpa using h.1
def ad4 {s:Server} {slot:Int} {y:de} {key:Int} (h:cV key≠slot) (h0:0<=slot) (hk:du key=true):cP {s with aD:=s.aD.set slot.toNat y} key=cP s key:=by
 have hr:=sj hk;unfold cP ab;simp only[List.getD_eq_getElem?_getD];rw[List.getElem?_set_ne om]
def ma {m:az} (h:bK m=true):(1<=m.kind/\m.kind<=10)/\lH m.aT=true/\lH m.to=true/\(0<=m.call/\m.call<=99)/\du m.key=true/\mq m.ar=true/\(0<=m.val/\m.val<=9999)/\bT m.aQ=true/\(0<=m.slot/\m.slot<=2)/\(0<=m.bw/\m.bw<=9999)/\ct m.an=true/\ct m.waits=true/\gz m.aE=true:=by
 simp only[bK,Bool.and_eq_true,aJ,decide_eq_true_eq] at h;obtain⟨⟨⟨⟨⟨⟨⟨⟨⟨⟨⟨⟨a1,a2⟩,a3⟩,a4⟩,a5⟩,a6⟩,a7⟩,a8⟩,a9⟩,yw⟩,CQ⟩,Li⟩,Lj⟩:=h;exact⟨a1,a2,a3,a4,a5,a6,a7,a8,a9,yw,CQ,Li,Lj⟩
def Dt {s:Server} {m:az} (h:uk s m=true):cM m.aT=true/\bM m.aT≠bM s.site/\m.an.length=1/\fE s (ab m.an 0).key=true/\bM (ab m.an 0).ar.site≠bM s.site:=by
 unfold uk at h;simp only[Bool.and_eq_true,decide_eq_true_eq,bne_iff_ne] at h;exact⟨h.1.1.1.1,h.1.1.1.2,h.1.1.2,h.1.2,h.2⟩
def Du {s:Server} {d:aw}:iq s d=true↔∃v∈s.waits,d∈v.aQ:=by
 unfold iq;rw[Bool.not_eq_true',<-Bool.not_eq_true,tY (p:=λv=>!sk d v)];have e:∀v:aA,(!sk d v)=true↔d∉v.aQ:=λv=>by
  unfold sk;rw[Bool.not_eq_true',decide_eq_false_iff_not,oY]
 constructor
 .intro h;apply Classical.byContradiction;intro hn;exact h λx hx=>(e x).2 λhd=>hn ⟨x,hx,hd⟩
 rintro⟨v,hv,hd⟩ h;exact(e v).1 (h v hv) hd
def ad5 {s:Server} {asked:List aw} {d x:aw} (h:x∈kz s asked d):x∈asked\/x=d:=by
 unfold kz at h;split at h
 .exact .inl h
 rcases List.mem_append.1 h with h|h
 .exact .inl h
 exact .inr (by simpa using h)
def Lk {s:Server}:∀{l asked:List aw} {x:aw},x∈l.foldl (kz s) asked->x∈asked\/x∈l
 |[],_,_,h=>.inl h
 |d::r,asked,x,h=>by
  rcases Lk (l:=r) h with h|h
  .rcases ad5 h with h|h
   .exact .inl h
   exact .inr (by simp[h])
  exact .inr (by simp[h])
def yT {m:az} (h:bK m=true):ly m:=by
 have p:=ma h;refine⟨by have:=iV p.2.2.2.2.2.2.2.1;omega,xj p.2.2.2.2.2.2.2.2.2.2.1,xj p.2.2.2.2.2.2.2.2.2.2.2.1,by have:=iP p.2.2.2.2.2.2.2.2.2.2.2.2;omega⟩
def bJ.small {s:Server} (h:bJ s):um s:=h.ok.small (by have:=iP h.aE;omega)
def xl {m:az} (h:bK m=true):0<=m.aT/\m.aT<=11/\0<=m.to/\m.to<=11:=by
 have p:=ma h;have h1:=p.2.1;have h2:=p.2.2.1;simp only[lH,cM,aJ,Bool.or_eq_true,Bool.and_eq_true,decide_eq_true_eq] at h1 h2;omega
def ad6 {a b d:Answer} (h:gZ a b=true) (h':gZ b d=true):gZ a d=true:=by
 unfold gZ at*;rw[decide_eq_true_eq] at*;omega
def TF {l:List Answer} (h:l.Pairwise λa b=>gZ a b=true) {i j:Nat} (hi:i<l.length) (hj:j<l.length) (he:(ab l i).key=(ab l j).key):i=j:=by
 rcases Nat.lt_trichotomy i j with bz|h'|bz
 .have:=yt h bz hj;unfold gZ at this;rw[decide_eq_true_eq] at this;omega
 .exact h'
 have:=yt h bz hi;unfold gZ at this;rw[decide_eq_true_eq] at this;omega
def oZ {q:Call} (h:bV q=true):q.end_=0/\q.over=false:=by
 unfold bV at h;simpa using h
def qS {n:Int}:eF n=true↔0<=n/\n<=1:=by simp[eF,aJ]
def ad7 {n:Int} (h:eF n=true):lH (10+n)=true:=by
 rw[qS] at h;unfold lH aJ;simp;right;omega
def xm {α:Type} [Inhabited α] {l:List α} {i:Nat} {a x:α} (h:x∈l.set i a):x=a\/∃k,k<l.length/\k≠i/\x=ab l k:=by
 obtain⟨k,hk,rfl⟩:=List.getElem_of_mem h;rw[List.length_set] at hk;by_cases e:i=k
 .subst e;left;simp
 right;refine⟨k,hk,λe'=>e e'.symm,?_⟩;rw[List.getElem_set_ne e];simp[ab,hk]
def Ll {α:Type} {l:List α} {i:Nat} {a:α} (h:i<l.length):a∈l.set i a:=by
 rw[List.mem_iff_getElem];exact⟨i,by simpa using h,by simp⟩
def Lm {α:Type} [Inhabited α] {l:List α} {i k:Nat} {a:α} (h:k<l.length) (aW:k≠i):ab l k∈l.set i a:=by
 rw[List.mem_iff_getElem];refine⟨k,by simpa using h,?_⟩;rw[List.getElem_set_ne (λe=>aW e.symm)];simp[ab,h]
def TG {l:List aw} (h:bT l=true) {a b:aw} (ha:a∈l) (hb:b∈l) (he:a.key=b.key):a=b:=by
 obtain⟨i,hi,rfl⟩:=fS ha;obtain⟨j,hj,rfl⟩:=fS hb;rcases Nat.lt_trichotomy i j with bz|rfl|bz
 .have:=CJ h bz hj;omega
 .rfl
 have:=CJ h bz hi;omega
def TH (p:aw->Bool):∀{l:List aw} {last:Int},ez last l=true->ez last (l.filter p)=true
 |[],_,_=>rfl
 |d::r,last,h=>by
  simp only[ez,Bool.and_eq_true] at h;have ih:=TH p h.2;have hd:=h.1.1;simp only[aJ,Bool.and_eq_true,decide_eq_true_eq] at hd;by_cases hp:p d=true
  .rw[List.filter_cons_of_pos hp];simp only[ez,Bool.and_eq_true];exact⟨h.1,ih⟩
  rw[List.filter_cons_of_neg hp];cases hr:r.filter p with
  |nil=>rfl
  |cons e r'=>
   rw[hr] at ih
   simp only[ez,Bool.and_eq_true,aJ,decide_eq_true_eq] at ih⊢
   exact⟨⟨⟨by omega,ih.1.1.2⟩,ih.1.2⟩,ih.2⟩
def fC {α:Type} [Inhabited α] {l:List α} {i j:Nat} {x:α} (h:i<l.length):ab (l.set i x) j=if j=i then x else ab l j:=by
 unfold ab;simp only[List.getD_eq_getElem?_getD];rw[List.getElem?_set];by_cases e:i=j
 .subst e;simp[h]
 rw[if_neg e,if_neg λe'=>e e'.symm]
def na {l:List Call} {aj:Int} (h:0<=cq l aj):(cq l aj).toNat<l.length/\(ab l (cq l aj).toNat).aj=aj/\bV (ab l (cq l aj).toNat)=true:=by
 unfold cq df at*;split at h
 .rename_i k hk;obtain⟨h1,h2,_⟩:=List.findIdx?_eq_some_iff_getElem.1 hk;have e:l[k]=ab l k:=by simp[ab,h1]
  rw[e] at h2;simp only[sK,Bool.and_eq_true,beq_iff_eq] at h2;refine⟨by simpa using h1,by simpa using h2.1.1,?_⟩;unfold bV;simp[h2.1.2,h2.2]
 omega
def ad8 {al more:List az} (h:al.length<=60):(eN al more).length<=60:=by
 unfold eN;rw[List.length_append,List.length_take];omega
def ad9 {al more:List az} (h:∀m∈al,bK m=true) (h':∀m∈more,bK m=true):∀m∈eN al more,bK m=true:=λm hm=>by
 unfold eN at hm;rcases List.mem_append.1 hm with hm|hm
 .exact h m hm
 exact h' m (List.mem_of_mem_take hm)
def TI {l:List aw} {d:aw} (h:fy l d<0):∀x∈l,x≠d:=λx hx e=>by
 have:=oY.2 (e▸hx);omega
def AX (s:Server) (key:Int) (hl:s.aD.length=3):
 Fn prog 291 [s.av,AV.int key] (AV.bool (fE s key)):=by
 refine Fn.go 13 func291 ntmps291 (λW I a U=>?_);refine bk λI a w U=>?_;refine U.o (.c1 (CG ..)) λU=>?_;refine bk λI a w U=>?_;refine U.q .T (CB (λhg=>Ka s key hg hl) (ax .ag (ax .ag aH))) λU=>?_;refine tO ?_;rfl
def TJ (s:Server) (m:az):(!cM m.aT||(bM m.aT==bM s.site)||((m.an.length:Int) !=1)||!fE s (ab m.an 0).key||(bM (ab m.an 0).ar.site==bM s.site))=!uk s m:=by
 have e:((m.an.length:Int) !=1)=!decide (m.an.length=1):=by rw[Bool.eq_iff_iff];simp;omega
 unfold uk;rw[e];simp[bne]
def Dv {α:Type} {o:Option α} (h:(!o.isSome)=true):o=none:=by cases o;rfl;cases h
def Gm {s:Server} {m:az} (h:(dY s.an m.key).isSome=true):m.aQ.map aw.ar++[((dY s.an m.key).getD default).ar]=fB s m:=by
 obtain⟨v,hv⟩:=Option.isSome_iff_exists.1 h;unfold fB;rw[hv];rfl
def Gn {s:Server} {m:az} (h:(dY s.an m.key).isSome=false):m.aQ.map aw.ar=fB s m:=by
 have e:dY s.an m.key=none:=by cases hh:dY s.an m.key;rfl;rw[hh] at h;cases h
 unfold fB;rw[e];simp
def TK {l ds:List aw} {k:Nat} (h:k<ds.length):(ds.take (k+1)).foldl eA l=eA ((ds.take k).foldl eA l) (ab ds k):=by
 rw[fe h,List.foldl_append];rfl
def Gp (s:Server) (m:az):(!s.up||!bK m||(m.to !=s.site))=!(s.up&&bK m&&(m.to==s.site)):=by simp[bne]
def aea (a b:Nat):decide ((a:Int)+b<=80)=decide (a+b<=80):=by rw[Bool.eq_iff_iff];simp;omega
def aeb (s:Server):(s.ba.filter λd=>!(!iq s d))=s.ba.filter (iq s):=by simp
def aec {s x:Server} (h:ir x=ir s) (hp:dI x<0):ef s={x with ba:=x.ba.filter λd=>!(!iq x d)}:=by
 have e:=RL hp;unfold ef FL;rw[<-h,e,aeb]
def vG (s:Server) (k:Nat):List Nat:=(List.range k).filter λi=>(ab s.aD i).cm==2
def aed {s:Server} {k:Nat} (h:(ab s.aD k).cm=2):vG s (k+1)=vG s k++[k]:=by
 unfold vG;rw[List.range_succ,List.filter_append];simp[h]
def aee {s:Server} {k:Nat} (h:¬(ab s.aD k).cm=2):vG s (k+1)=vG s k:=by
 unfold vG;rw[List.range_succ,List.filter_append];simp[h]
def aef (s:Server) (k:Nat):(vG s k).length<=k:=by
 have:=List.length_filter_le (λi=>(ab s.aD i).cm==2) (List.range k);rw[List.length_range] at this;exact this
def ot (s:Server) (i:Nat):List aw:=((s.waits.take i).map aA.aQ).flatten.foldl (kz s) []
def j0 (s:Server) (i j:Nat):List aw:=((ab s.waits i).aQ.take j).foldl (kz s) (ot s i)
def AY {s:Server} {i j:Nat} (h:j<(ab s.waits i).aQ.length):j0 s i (j+1)=kz s (j0 s i j) (ab (ab s.waits i).aQ j):=by
 unfold j0;rw[fe h,List.foldl_append];rfl
def Ln {s:Server} {i j:Nat} (h:i<s.waits.length) (hj:(ab s.waits i).aQ.length<=j):j0 s i j=ot s (i+1):=by
 unfold j0 ot;rw[List.take_of_length_le hj,fe h,List.map_append,List.flatten_append,List.foldl_append];simp
def Lo (s:Server) {i:Nat} (h:s.waits.length<=i):ot s i=vF s:=by unfold ot vF;rw[List.take_of_length_le h]
def aeg (s:Server) (l:List aw) (d:aw):(kz s l d).length<=l.length+1:=by unfold kz;split<;>simp
def TL (s:Server):∀(l asked:List aw),(l.foldl (kz s) asked).length<=asked.length+l.length
 |[],asked=>by simp
 |d::r,asked=>by have:=TL s r (kz s asked d);have:=aeg s asked d;simp only[List.foldl_cons,List.length_cons];omega
def Dw (s:Server) (i j:Nat):(j0 s i j).length<=(ot s i).length+j:=by
 have h1:=TL s ((ab s.waits i).aQ.take j) (ot s i);have h2:((ab s.waits i).aQ.take j).length<=j:=by simp;omega
 unfold j0;omega
def AZ {s:Server} (h:∀v∈s.waits,v.aQ.length<=6):∀i,i<=s.waits.length->(ot s i).length<=6*i
 |0,_=>by simp[ot]
 |i+1,hi=>by
  have h1:=AZ h i om;have h2:=Dw s i (ab s.waits i).aQ.length;have h3:=h _ (bh (l:=s.waits) (k:=i) om);rw[<-Ln om (Nat.le_refl _)];omega
def TM {s:Server} {l:List aw} {d:aw} (h:(!eG s d&&decide (fy l d<0))=false):kz s l d=l:=by
 unfold kz;rw[if_pos];rw[Bool.or_eq_true,decide_eq_true_eq];rw[Bool.and_eq_false_iff,Bool.not_eq_false',decide_eq_false_iff_not] at h;rcases h with h|h
 .exact .inl h
 exact .inr om
def Gq {s:Server} {l:List aw} {d:aw} (h:(!eG s d&&decide (fy l d<0))=true):kz s l d=l++[d]:=by
 unfold kz;rw[if_neg];rw[Bool.or_eq_true,decide_eq_true_eq];rw[Bool.and_eq_true,Bool.not_eq_true',decide_eq_true_eq] at h;rw[h.1];simp;omega
def uq (site k:Nat):List de:=(List.range k).map λi=>if i%2=site%2 then⟨1,1⟩ else⟨0,0⟩
def TO {site k:Nat} (h:(k:Int)%2=(site:Int)%2):uq site k++[⟨1,1⟩]=uq site (k+1):=by
 unfold uq;rw[List.range_succ,List.map_append,List.map_singleton,if_pos om]
def TP {site k:Nat} (h:¬(k:Int)%2=(site:Int)%2):uq site k++[⟨0,0⟩]=uq site (k+1):=by
 unfold uq;rw[List.range_succ,List.map_append,List.map_singleton,if_neg om]
def Gr (site k:Nat):(uq site k).length=k:=by simp[uq]
def TQ {s:Server} {m:az} (ho:(cM m.aT&&(bM m.aT !=bM s.site))=true):(((m.an.length:Int) !=1)||!fE s (ab m.an 0).key||!(bM (ab m.an 0).ar.site !=bM s.site))=!uk s m:=by
 have e:((m.an.length:Int) !=1)=!decide (m.an.length=1):=by rw[Bool.eq_iff_iff];simp;omega
 unfold uk;rw[e,ho];simp
def yU (k t c:Int) (st:cE) (v:Int) (sl e:Int):ly ⟨k,0,0,c,t,st,v,false,[],sl,e,[],[],[]⟩:=⟨Nat.zero_le _,⟨Nat.zero_le _,λ_ h=>by cases h⟩,⟨Nat.zero_le _,λ_ h=>by cases h⟩,Nat.zero_le _⟩
def TR (x:Bool) (n:Int):(x&&!decide (0<=n))=(x&&decide (n<0)):=by
 have e:(!decide (0<=n))=decide (n<0):=by rw[Bool.eq_iff_iff];simp
 rw[e]
def Call.A0 (q:Call) (n:Value):AV:=.agg [AV.int q.aj,AV.int q.num,AV.int q.kind,jt q.keys,AV.int q.val,bE q.ctx,AV.int q.bH,AV.int q.end_,AV.bool q.over,AV.int q.ar.time,AV.int q.ar.site,sd q.au,.val n]
def Call.avG (q:Call) (g:Value):AV:=.agg [AV.int q.aj,AV.int q.num,AV.int q.kind,jt q.keys,AV.int q.val,bE q.ctx,AV.int q.bH,AV.int q.end_,AV.bool q.over,AV.int q.ar.time,AV.int q.ar.site,.val g,bE q.aL]
def TS {m:az} (h1:m.aQ=[]) (h2:m.an=[]) (h3:m.waits=[]) (h4:m.aE=[]):ly m:=by
 unfold ly;rw[h1,h2,h3,h4];simp[xi]
def ai.TU (w:ai) (r:Value×Value×Value×Value):List Own:=[Own.row r.1 95 7 (w.aC.map Server.cells),Own.row r.2.1 108 15 (w.al.map az.cells),Own.row r.2.2.1 45 13 (w.calls.map Call.cells),Own.row r.2.2.2 40 1 (w.seen.map gy)]
def Lp (q:Call):
 Fn prog 287 [q.av] (AV.bool (bV q)):=by
 refine Fn.go 11 func287 ntmps287 (λW I a U=>?_);refine Ai λI a w U=>?_;refine U.rt ?_;exact bB (by unfold bV;rfl)
def qT (q:Call) (a:Answer) (k:Nat):List aw:=(q.aL.take k).filter λd=>decide (d≠a.aY.aU)
def Lq {α:Type} [Inhabited α] {l:List α} {k:Nat} {x:α} (h:k<l.length):x∈l.take (k+1)↔x∈l.take k\/x=ab l k:=by rw[fe h];simp
def aei {q:Call} {a:Answer} {k:Nat} (h:k<q.aL.length) (he:ab q.aL k=a.aY.aU):qT q a k=qT q a (k+1):=(oJ h (by simp[he])).symm
def aej {q:Call} {a:Answer} {k:Nat} (h:k<q.aL.length) (he:ab q.aL k≠a.aY.aU):qT q a k++[ab q.aL k]=qT q a (k+1):=(oI h (by simp[he])).symm
def aek (q:Call) (a:Answer) (k:Nat):(qT q a k).length<=q.aL.length:=tX _ _ _
def TV (d:aw) (a:Answer) (h:a.aY.key=a.key):((d.key==a.key)&&([d.ar.time,d.ar.site]==[a.aY.ar.time,a.aY.ar.site]))=decide (d=a.aY.aU):=by
 obtain⟨k,⟨t,s⟩⟩:=d;obtain⟨ak,ay,av⟩:=a;obtain⟨vk,⟨vt,vs⟩,vv,vc,vca,vd⟩:=av;obtain rfl:vk=ak:=h;rw[Bool.eq_iff_iff];simp[aA.aU]
def Gs (m:az):((m.kind !=4)||(m.yes&&((m.an.length:Int) !=1||((ab m.an 0).key !=m.key))))=!decide (m.kind=4/\(m.yes=true->m.an.length=1/\(ab m.an 0).key=m.key)):=by
 have e:((m.an.length:Int) !=1)=!decide (m.an.length=1):=by rw[Bool.eq_iff_iff];simp;omega
 rw[e,Bool.eq_iff_iff];cases m.yes<;>simp<;>omega
def TW (q:Call) (x:Answer) (k:Nat):(((((qT q x k).map aw.cells).length:Int)==0)&&decide (0<(q.aL.length:Int)))=decide (qT q x k=[]/\q.aL≠[]):=by
 rw[List.length_map,Bool.eq_iff_iff];simp;intro _;exact⟨λh e=>by rw[e] at h;simp at h,λh=>by cases hq:q.aL with|nil=>exact absurd hq h|cons _ _=>simp⟩
def ael (q:Call) (n:Value):
 Fn prog 228 [q.A0 n] (AV.bool (qR q)):=by
 refine Fn.go 10 func228 ntmps228 (λW I a U=>?_);refine yf λI a w U=>?_;refine U.rt ?_;rfl
def aem (m:az) (d:aw):
 Fn prog 355 [d.av,AV.ptr m.cells] (AV.bool (decide (d.key=m.key))):=by
 refine Fn.go 9 func355 ntmps355 (λW I a U=>?_);refine pJ λI a w U=>?_;refine U.rt ?_;exact congrArg AV.bool (by rw[Bool.eq_iff_iff];simp)
abbrev vH (l:List aA) (I0:Im):={x:Nat×Value//x.1<l.length/\(ab l x.1).av.h I0 x.2}
def xo {l:List aA} {I0:Im} (xs:List (vH l I0)):Prop:=∀j x,xs[j]?=some x->x.1.1+1+j=l.length
def Lr (a:Act):Nat:=match a.tmps.getD 3 undef with|.int _ x=>(x+1).toNat|_=>0
def TX {c:Ctx} {I:Im} {H:List Own} {Γ:Env} {a:Act} {w:World} {k:Nat} (U:St c I H Γ a w) (h:Env.get 3 Γ=some (.int ((k:Int)-1)):=by rfl):Lr a=k:=by
 have:=U.env 3 _ h;unfold Lr;rw[show a.tmps.getD 3 undef=_ from this];simp
def Ls (r:List Value):List AV:=[.val (r.getD 0 undef),.val (r.getD 1 undef),.val (r.getD 2 undef),.val (r.getD 3 undef),.val (r.getD 4 undef),.val (r.getD 5 undef),.val (r.getD 6 undef)]
def TY {r:List Value} (h:r.length=7):r.map AV.val=Ls r:=by
 match r,h with
 |[a,b,c,d,e,f,g],_=>rfl
def A1 {m:az} {k:Int} {b:Bool} (h:(m.kind==k&&b)=false) (hk:m.kind=k):b=false:=by rw[hk,beq_self_eq_true,Bool.true_and] at h;exact h
def Gt (l:List Call) (aj:Int):
 Fn prog 217 [iL l,AV.int aj] (AV.int (cq l aj)):=by
 refine Fn.go 36 func217 ntmps217 (λW I a U=>?_);have hle:=U.eE (t:=0) rfl;refine aF λI a w U=>?_;refine St.lo (σ:=Nat) (run 32 4 []) ⟨λk=>[(5,AV.int k)],λk=>[],λk=>k<=l.length/\∀i,i<k->sK aj (ab l i)=false⟩ (λk=>l.length-k) 0 U ?aI ?bF;case aI=>exact⟨Nat.zero_le _,λi hi=>by omega⟩
 rintro k I a w ao U;obtain⟨hk,aM⟩:=ao;refine aX λI a w U=>?_;refine cz (λae=>?_) λae=>?_
 .refine Ft λI a w U=>?_;refine U.cd (λah=>?_) λah=>?_
  .change sK aj (ab l k)=true at ah;refine c8 ?_;exact gx (nB ae aM ah).symm
  change sK aj (ab l k)=false at ah;refine aR λI a w U=>?_;exact U.ag (k+1) (⟨ae,λi h1=>by rcases Nat.lt_succ_iff_lt_or_eq.1 h1 with h|h;exact aM i h;rw[h];exact ah⟩)
 refine zt ?_;refine bf ?_;exact gx (mS om aM).symm
def yV (al more:List az):Nat->List az
 |0=>al
 |k+1=>yV al more k++[ab more k]
def TZ (al more:List az):∀k,k<=more.length->yV al more k=al++more.take k
 |0,_=>by simp[yV]
 |k+1,h=>by
  show yV al more k++_=_;rw[TZ al more k om,List.append_assoc,<-fe om]
def aen {al more:List az} {k:Nat} (hr:al.length<=60) (hk:k<=more.length) (eR:k<=60-al.length) (h:¬(k<more.length/\(al++more.take k).length<60)):al++more.take k=eN al more:=by
 unfold eN;have hl:(more.take k).length=k:=by simp;omega
 rw[List.length_append,hl] at h;congr 1;by_cases hm:k<more.length
 .have:k=60-al.length:=by omega
  rw[this]
 have:k=more.length:=by omega
 rw[this,List.take_length,List.take_of_length_le om]
def Gu (v:Value) (al more:List az) (hr:al.length<=60):
 jV prog 272 [AV.val v,dM more] [Own.row v 108 15 (al.map az.cells)] [] (dM (eN al more)):=by
 refine dp.intro 25 func272 rfl ntmps272 rfl aO (λW I a U=>?_);have hle:=U.eE (t:=1) rfl;refine aF λI a w U=>?_;refine St.lo (σ:=Nat×Value) (0::(run 19 5 [])) ⟨λ⟨k,u⟩=>[(5,AV.int k),(0,AV.val u)],λ⟨k,u⟩=>[Own.row u 108 15 ((yV al more k).map az.cells)],λ⟨k,u⟩=>k<=more.length/\k<=60-al.length⟩ (λ⟨k,u⟩=>more.length-k) (0,v) U ?aI ?bF;case aI=>exact⟨Nat.zero_le _,Nat.zero_le _⟩
 rintro⟨k,u⟩ I a w ao U;obtain⟨hk,eR⟩:=ao;have bz:(more.take k).length=k:=by simp;omega
 have Gv:=TZ al more k hk;dsimp only at U;refine dZ λI a w U=>?_;refine U.q .T (tv 0 gA .ag rfl) λU=>?_;refine aF λI a w U=>?_;refine tN (λae=>?_) λae=>?_
 .rw[List.length_map] at ae;rw[Gv] at ae;replace ae:k<more.length/\(al++more.take k).length<60:=⟨ae.1,by omega⟩;refine bk λI a w U=>?_;refine U.o ((by first|exact ff gA dV .tt .tt (λ_=>by exact ae.1)|exact iT gA dV .tt .tt (λ_=>by exact ae.1)|exact je gA dV .tt .tt (λ_=>by exact ae.1))) λU=>?_;refine U.o .la λU=>?_;refine U.o (.li [(ab more k).cells] iN (.u .nil)) λU=>?_;refine U.append 0 rfl gA dV rfl .tt .r rfl (by rw[Gv];simp;omega) λGw a w U=>?_;rw[cJ,show yV al more k++[ab more k]=yV al more (k+1) from rfl] at U;refine aX λI a w U=>?_;exact U.ag (k+1,Gw) (⟨ae.1,by have:=ae.2;rw[List.length_append,bz] at this;omega⟩)
 replace ae:¬(k<more.length/\(al++more.take k).length<60):=λhh=>by rw[Gv] at ae;simp at ae;simp at hh;omega
 refine wp_exit<|cB<|cB<|fo<|bm<|wp_seq ?_;rw[Gv,aen hr hk eR ae] at U;obtain⟨I,U⟩:=U.fr 0 0;refine aF λI a w U=>?_;refine U.dx () [] rfl (.cons (.t rfl) .nil) trivial rfl rfl
def T0 (w:ai) (e:Ev):(!aJ e.aj 0 1||decide (0<=cq w.calls e.aj))=!(eF e.aj&&decide (cq w.calls e.aj<0)):=by
 have h:decide (0<=cq w.calls e.aj)=!decide (cq w.calls e.aj<0):=by rw[Bool.eq_iff_iff];simp
 rw[h];unfold eF;simp
def aeo {m:az} (h:bK m=true) (h2:aJ m.to 10 11=false):0<=m.to/\m.to<=3:=by
 have:=(ma h).2.2.1;simp only[lH,cM,Bool.or_eq_true] at this;rw[h2] at this;simpa[aJ] using this
def aep {e:Ev} (h3:(!aJ e.kind 6 9||!cM e.at_)=false):cM e.at_=true:=by simp at h3;exact h3.2
def aeq (c0:Call) (aj:Int):
 Fn prog 286 [c0.av,AV.ptr [AV.int aj]] (AV.bool (sK aj c0)):=by
 refine Fn.go 12 func286 ntmps286 (λW I a U=>?_);refine mz λI a w U=>?_;refine U.q .T (.cl (Lp c0)) λU=>?_;refine c8 ?_;exact bB (by unfold sK bV;rw[Bool.and_assoc])
def aer {al more:List az} {k:Nat} (hk:k<more.length) (h:(eN al (more.take k)).length<60):eN al (more.take k)++[ab more k]=eN al (more.take (k+1)):=by
 unfold eN at h⊢;rw[List.length_append,List.length_take,List.length_take] at h;rw[List.take_of_length_le (l:=more.take k) (by rw[List.length_take];omega),List.take_of_length_le (l:=more.take (k+1)) (by rw[List.length_take];omega),fe hk,List.append_assoc]
def aes {al more:List az} {k:Nat} (hr:al.length<=60) (hk:k<more.length) (h:¬(eN al (more.take k)).length<60):eN al (more.take k)=eN al (more.take (k+1)):=by
 unfold eN at h⊢;rw[List.length_append,List.length_take,List.length_take] at h;rw[List.take_take,List.take_take,Nat.min_eq_left om,Nat.min_eq_left om]
def aet (al:List az):eN al []=al:=by simp[eN]
def aeu (al more:List az) (h:al.length<=60):(eN al more).length<=60:=by
 unfold eN;rw[List.length_append,List.length_take];omega
def T3 (w:ai) (e:Ev):(!eF e.aj||decide (0<=cq w.calls e.aj))=!(eF e.aj&&decide (cq w.calls e.aj<0)):=by
 have h:decide (0<=cq w.calls e.aj)=!decide (cq w.calls e.aj<0):=by rw[Bool.eq_iff_iff];simp
 rw[h];simp
def aev {m:az} (h:bK m=true) (U:cM m.to=false):aJ m.to 10 11=true:=by
 have:=(ma h).2.2.1;unfold lH at this;rw[U,Bool.false_or] at this;exact this
def T4 {x:ai} {e:Ev} (h:((ab x.aC e.at_.toNat).up==(e.kind==7))=false) (h7:¬e.kind=7):(ab x.aC e.at_.toNat).up=true:=by
 rw[show(e.kind==7)=false by simpa using h7] at h;simpa using h
def aew {x:ai} {e:Ev} (h:((ab x.aC e.at_.toNat).up==(e.kind==7))=false) (h7:e.kind=7):(ab x.aC e.at_.toNat).up=false:=by
 rw[h7] at h;simpa using h
def ia (x:Int):Prop:=-4611686018427387904<=x/\x<=4611686018427387904
def Ev.A2 (e:Ev):Prop:=∀x∈e.ints,ia x
structure ew where
 w:ai
 list:List Ev
 lv:Value
def kW {a b c d e f g h i j k:Int} (h1:ia a:=by unfold ia;omega) (h2:ia b:=by unfold ia;omega) (h3:ia c:=by unfold ia;omega) (h4:ia d:=by unfold ia;omega) (h5:ia e:=by unfold ia;omega) (h6:ia f:=by unfold ia;omega)
 (h7:ia g:=by unfold ia;omega) (h8:ia h:=by unfold ia;omega) (h9:ia i:=by unfold ia;omega) (F6:ia j:=by unfold ia;omega) (EX:ia k:=by unfold ia;omega):Ev.A2 ⟨a,b,c,d,e,f,g,h,i,j,k⟩:=by
 intro x hx;unfold ia at*;simp only[Ev.ints,List.mem_cons,List.not_mem_nil,or_false] at hx;rcases hx with rfl|rfl|rfl|rfl|rfl|rfl|rfl|rfl|rfl|rfl|rfl<;>omega
def aex {x i:Int} (h:ia x):ia (ab [0,2,x] i.toNat):=by
 unfold ia at*;have:∀k:Nat,ab [0,2,x] k=0\/ab [0,2,x] k=2\/ab [0,2,x] k=x:=λk=>by
  match k with
  |0=>exact .inl rfl
  |1=>exact .inr (.inl rfl)
  |2=>exact .inr (.inr rfl)
  |k+3=>exact .inl rfl
 rcases this i.toNat with h|h|h<;>omega
def Lt (x:UInt8):List AV:=[AV.byte x]
def gn (l:List UInt8):AV:=.rows 1 (l.map Lt)
def aey {bs:List UInt8} {n:Int} (h:(decide (n<1)||((bs.length:Int)==0))=false):¬(n<1\/bs.length=0):=by
 simp only[Bool.or_eq_false_iff,decide_eq_false_iff_not,beq_eq_false_iff_ne,ne_eq] at h;omega
def Gx {x:Int} (h1:0<=x) (h2:x<4611686018427387904):ia x:=by unfold ia;omega
def T5 (code:List UInt8) (bq:code.length<=1099511627776):
 dp prog 52 [gn code] [] (λr:Nat×List UInt8=>r.2.length<=1099511627776) (λr=>[Own.box r.1 147 [gn r.2,AV.int (0)]]) (λr=>AV.val (.pointer (some ⟨r.1,0,none⟩))):=by
 refine dp.intro 11 func52 rfl ntmps52 rfl aO (λW I a U=>?_);refine bD λI a w U=>?_;refine nn ?_;refine St.cut (σ:=List UInt8) (0::(run 5 3 [])) ⟨λcd=>[(0,gn cd)],λcd=>[],λcd=>cd.length<=1099511627776⟩ U ?Lu ?aez;case Lu=>
  refine aR λI a w U=>?_;refine tN (λae=>?_) λae=>?_
  .refine bD λI a w U=>?_;refine U.o (B5 yi yh .r .c (λ_=>by rw[List.length_map];omega)) λU=>?_;refine aB λI a w U=>?_;refine U.meet (code.take 2000) ?aeA dR ?aeB (by repeat(first|exact Env.EK|refine Env.iy rfl ?_));case aeA=>first|exact bq|(simp;omega)
   case aeB=>exact(Env.dA rfl (by first|rfl|(unfold gn;rw[List.map_take];rfl)) Env.le_nil)
  refine zt ?_;refine U.meet code ?aeC dR ?aeD (by repeat(first|exact Env.EK|refine Env.iy rfl ?_));case aeC=>first|exact bq|(simp;omega)
  case aeD=>exact(Env.dA rfl (by first|rfl|(unfold gn;rw[List.map_take];rfl)) Env.le_nil)
 rintro cd I a w ao U;have iv:cd.length<=1099511627776:=ao;refine bD λI a w U=>?_;refine U.o (.bd aaW (.k aZ.nil)) λU=>?_;refine U.box rfl .tt λm7 I a w U=>?_;refine aB λI a w U=>?_;refine U.dx (m7,cd) [0] rfl (.cons (.t rfl) .nil) iv rfl rfl
def bP (i:Nat):Nat:=if i%2=0 then i+1 else i-1
def j1 {i:Nat} (h:i<4):bP i<4:=by unfold bP;split<;>omega
def ou (i:Nat):bP i/2=i/2:=by unfold bP;split<;>omega
def Lv (i:Nat):bP i≠i:=by unfold bP;split<;>omega
def jA (i:Nat):bP (bP i)=i:=by unfold bP;split<;>split<;>omega
def aeE {i j:Nat} (h:j/2=i/2):j=i\/j=bP i:=by unfold bP;split<;>omega
def j2 (q p:Call):Prop:=p.aj=q.aj/\p.num=q.num/\p.kind=q.kind/\p.keys=q.keys/\p.val=q.val/\p.ctx=q.ctx
def j2.refl (q:Call):j2 q q:=⟨rfl,rfl,rfl,rfl,rfl,rfl⟩
def eB (w:ai) (i:Nat) (s:Server):ai:={w with aC:=w.aC.set i s}
def Lw (w:ai) (i:Nat) (s t:Server):eB (eB w i s) i t=eB w i t:=by unfold eB;simp[List.set_set]
def Gy {key:Int} (h:du key=true):0<=cV key/\cV key<=2:=by
 have:=K9.1 h;unfold cV;rw[if_pos h];omega
def j2.trans {a b d:Call} (h:j2 a b) (h':j2 b d):j2 a d:=by
 obtain⟨a1,a2,a3,a4,a5,a6⟩:=h;obtain⟨b1,b2,b3,b4,b5,b6⟩:=h';exact⟨b1.trans a1,b2.trans a2,b3.trans a3,b4.trans a4,b5.trans a5,b6.trans a6⟩
def Lx {l:List aA} {key:Int} (h:dY l key=none) {u:aA} (hu:u∈l):u.key≠key:=by
 unfold dY at h;rw[List.find?_eq_none] at h;have:=h u (List.mem_reverse.2 hu);simpa[pV] using this
def T6 (l:List Call) (i:Nat) (x:Int):iF l i x=df (λy:Int=>y==x) ((l.map Call.aj).drop (i+1)):=by
 unfold iF df;rw[<-List.map_drop,List.findIdx?_map];rfl
def T7 {l:List Call} {i:Nat} {x:Int} (h:0<=iF l i x):i+1+(iF l i x).toNat<l.length/\(ab l (i+1+(iF l i x).toNat)).aj=x:=by
 unfold iF df at*;split at h
 .rename_i k hk;obtain⟨h1,h2,_⟩:=List.findIdx?_eq_some_iff_getElem.1 hk;rw[List.length_drop] at h1;rw[List.getElem_drop] at h2;refine⟨by rw[Int.toNat_natCast];omega,?_⟩;have e:l[i+1+k]=ab l (i+1+k):=by simp[ab,show i+1+k<l.length by omega]
  rw[e] at h2;rw[Int.toNat_natCast];simpa[m9] using h2
 omega
def Ly {l:List Call} {i:Nat} {x:Int} (h:∀j,i<j->j<l.length->(ab l j).aj≠x):iF l i x<0:=by
 rcases Int.lt_or_le (iF l i x) 0 with h0|h0
 .exact h0
 obtain⟨h1,h2⟩:=T7 h0;exact absurd h2 (h _ om h1)
def sL {α:Type} [Inhabited α] {l m:List α} {i:Nat} (h:i<l.length):ab (l++m) i=ab l i:=by
 unfold ab;simp[List.getD_eq_getElem?_getD,List.getElem?_append_left h]
def aeF {v:aA} (h:dN v=true) {d:aw} (hd:d∈v.aQ):d.ar.time<v.ar.time:=by
 simp only[dN,Bool.and_eq_true] at h;have:=h.2;unfold E8 at this;rw[tY (p:=λd:aw=>decide (d.ar.time<v.ar.time))] at this;simpa using this d hd
def ur (a b:List Call):Prop:=b=a\/(∃q,b=a++[q])\/∃i q,i<a.length/\bV (ab a i)=true/\b=a.set i q
def ur.len {a b:List Call} (h:ur a b):a.length<=b.length/\b.length<=a.length+1:=by
 rcases h with rfl|⟨q,rfl⟩|⟨i,q,_,_,rfl⟩<;>simp
section
variable {P:Program} {H:Type} {enc:TypeId×Value->H} {W:World}
def aeG {t:TypeId} (ht:P.underlying t=some (.int .u8)):CF enc P W Lt (λ_=>True) t:=λn cs x h=>by
 obtain⟨k,rfl,_,hw⟩:=DataW.trod_int ht h;simp only[Lit.wf,Bool.and_eq_true,decide_eq_true_eq] at hw;have h0:0<=k:=hw.1;have h1:k<=255:=hw.2;refine⟨UInt8.ofNat k.toNat,⟨⟨?_,rfl⟩,trivial⟩,trivial⟩;show Value.int .u8 k=Value.int .u8 ((UInt8.ofNat k.toNat).toNat:Int);rw[UInt8.toNat_ofNat'];congr 1;omega
end
def zU {H:Type} {enc:TypeId×Value->H} {W:World}:CF enc prog W (λl:List UInt8=>[gn l]) (λl=>∀y∈l,True) 22:=
 abR (t:=22) (sz:=1) (cf:=Lt) aO aO aP (λ_=>rfl) (aeG (t:=5) aO)
def Lz {r l:List az} (h:r.length+l.length<=60):eN r l=r++l:=by
 unfold eN;rw[List.take_of_length_le om]
def yW (s:Server):Prop:=∀d∈s.ba,iq s d=true
def aeH {e:Ev}:0<(eZ e).length:=by unfold eZ;simp
def Dx {s t:Server} (h1:t.an=s.an) (h2:∀d∈t.ba,d∈s.ba) {d:aw} (h:eG t d=true):eG s d=true:=by
 unfold eG at*;rw[Bool.or_eq_true,decide_eq_true_eq,decide_eq_true_eq,oY] at*;rw[h1] at h;exact h.imp id (h2 d)
def yX {R:ai->Prop} {f:ai->Nat->ai} (hf:∀x i,R x->R (f x i)):∀(l:List Nat) {x:ai},R x->R (l.foldl f x)
 |[],_,h=>h
 |i::r,_,h=>yX hf r (hf _ i h)
def Gz {f:ai->Nat->ai} {n:Int} (hf:∀x i,(f x i).time<=x.time+n):∀(l:List Nat) (x:ai),(l.foldl f x).time<=x.time+n*(l.length:Nat)
 |[],x=>by simp
 |i::r,x=>by
  have h1:=Gz hf r (f x i);have h2:=hf x i;have h3:n*((r.length+1:Nat):Int)=n*(r.length:Nat)+n:=by rw[Int.natCast_add,Int.mul_add];simp
  rw[List.foldl_cons,List.length_cons];omega
def leaves (q:de):Bool:=q.cm==2
def yY (x:ai) (i:Nat):Bool:=calm (ab x.aC i)
def T8 (s:Server):(!s.up||decide (0<((s.waits.length:Int)+s.aE.length)+s.ba.length)||hasB leaves s.aD)=!calm s:=by
 unfold calm;simp;rfl
def aeI (q:de):
 Fn prog 58 [q.av] (AV.bool (leaves q)):=by
 refine Fn.go 6 func58 ntmps58 (λW I a U=>?_);refine iM λI a w U=>?_;refine U.rt ?_;rfl
def T9 {l:List de} {i:Nat} {x:de} (k:Nat):ab (l.set i x) k=ab l k\/ab (l.set i x) k=x:=by
 rcases Nat.lt_or_ge i l.length with hi|hi
 .rw[fC hi];split
  .exact .inr rfl
  exact .inl rfl
 rw[List.set_eq_of_length_le hi];exact .inl rfl
def LA {s:Server}:∀{l asked:List aw},(asked.Pairwise λa b=>a≠b)->(∀d∈asked,eG s d=false)->((l.foldl (kz s) asked).Pairwise λa b=>a≠b)/\(∀d∈l.foldl (kz s) asked,eG s d=false)/\(∀d∈asked,d∈l.foldl (kz s) asked)/\∀d∈l,eG s d=false->d∈l.foldl (kz s) asked
 |[],asked,h1,h2=>⟨h1,h2,λd hd=>hd,by simp⟩
 |d::r,asked,h1,h2=>by
  rw[List.foldl_cons];by_cases hc:(eG s d||decide (0<=fy asked d))=true
  .have e:kz s asked d=asked:=by unfold kz;rw[if_pos hc]
   rw[e];obtain⟨a,b,c,f⟩:=LA (l:=r) h1 h2;refine⟨a,b,c,λx hx U=>?_⟩;rcases List.mem_cons.1 hx with rfl|hx
   .rw[U,Bool.false_or,decide_eq_true_eq,oY] at hc;exact c _ hc
   exact f x hx U
  have e:kz s asked d=asked++[d]:=by unfold kz;rw[if_neg hc]
  rw[e];rw[Bool.or_eq_true,not_or,decide_eq_true_eq,oY] at hc;obtain⟨a,b,c,f⟩:=LA (s:=s) (l:=r) (asked:=asked++[d]) (by
   rw[List.pairwise_append];exact⟨h1,by simp,λx hx y hy e'=>by rw[List.mem_singleton.1 hy] at e';exact hc.2 (e'▸hx)⟩) λx hx=>by
   rcases List.mem_append.1 hx with hx|hx
   .exact h2 x hx
   obtain rfl:=List.mem_singleton.1 hx;simpa using hc.1
  refine⟨a,b,λx hx=>c x (by simp[hx]),λx hx U=>?_⟩;rcases List.mem_cons.1 hx with rfl|hx
  .exact c _ bn
  exact f x hx U
def Ua (s:Server):((vF s).Pairwise λa b=>a≠b)/\(∀d∈vF s,eG s d=false/\∃v∈s.waits,d∈v.aQ)/\∀v∈s.waits,∀d∈v.aQ,eG s d=false->d∈vF s:=by
 obtain⟨a,b,_,f⟩:=LA (s:=s) (l:=(s.waits.map aA.aQ).flatten) (asked:=[]) bn bn;refine⟨a,λd hd=>⟨b d hd,?_⟩,λv hv d hd U=>f d (List.mem_flatten.2 ⟨v.aQ,List.mem_map.2 ⟨v,hv,rfl⟩,hd⟩) U⟩;rcases Lk hd with h|h
 .simp at h
 obtain⟨l,h1,h2⟩:=List.mem_flatten.1 h;obtain⟨v,hv,rfl⟩:=List.mem_map.1 h1;exact⟨v,hv,h2⟩
def LB {s:Server} {d:aw} (h:d∈s.ba):eG s d=true:=by
 unfold eG;rw[Bool.or_eq_true,decide_eq_true_eq,decide_eq_true_eq];exact .inr (oY.2 h)
def Ub {s:Server} {d:aw} (h:eG s d=true):(∃x∈s.an,x.aU=d)\/d∈s.ba:=by
 unfold eG at h;rw[Bool.or_eq_true,decide_eq_true_eq,decide_eq_true_eq] at h;exact h.imp nC.1 oY.1
def kD (w:ai):Prop:=∀n,n<w.calls.length->bV (ab w.calls n)=false
def LC (l:List aA):List AV:=[bU l]
def aeJ {ls:List (List aA)} {k:Nat} (h:k<ls.length):(ls.take (k+1)).flatten=(ls.take k).flatten++ab ls k:=by
 rw[fe h,List.flatten_append];simp
def aeK (n:Nat) (g:Nat->Bool):cI (n+1) g=(cI n g&&g n):=by
 rw[Bool.eq_iff_iff,Bool.and_eq_true,gF,gF];constructor
 .intro h;exact⟨λi hi=>h i om,h n om⟩
 rintro⟨h1,h2⟩ i hi;by_cases e:i=n
 .rw[e];exact h2
 exact h1 i om
def Uc {Γ:Env} {g:Bool} {x':Operand} (q:ve) (hy:At Γ g x' (.agg [.int q.1.1,.int q.1.2])):∀I a,dy I a Γ->g=true->keyOf prog 182 (a.eval x')=some (vf prog 182 q):=
 aab (s:=325) JR oG aO aO aO aO q hy
def nJ (w:ai):Nat->Nat
 |0=>0
 |k+1=>nJ w k+if bV (ab w.calls k)=true then 1 else 0
def Ud {w:ai} {k:Nat} (h:bV (ab w.calls k)=true):((nJ w k:Nat):Int)+1=((nJ w (k+1):Nat):Int):=by
 show _=((nJ w k+if bV (ab w.calls k)=true then 1 else 0:Nat):Int);rw[if_pos h];omega
def Ue (w:ai):∀k,nJ w k<=k
 |0=>Nat.le_refl _
 |k+1=>by
  have:=Ue w k;show nJ w k+_<=_;split<;>omega
def LD (r:Int):Ev:=⟨4,0,0,r,1,0,0,0,0,0,0⟩
end Go.Proofs.YtldbakcpcfdlaaaGreat
