/- Part 10: contracts of functions, plain facts. -/
import Derived.Test.YtldbakcpcfdlaaaGreatP09
set_option linter.all false
set_option maxRecDepth 100000
set_option maxHeartbeats 4000000
namespace Go.Proofs.YtldbakcpcfdlaaaGreat
open Go Go.RowKit Tryz
attribute [local irreducible] wpList Code.wp Ok
def jI (n a b:Int):
 Fn prog 65 [AV.int n,AV.int a,AV.int b] (AV.bool (aJ n a b)):=by
 refine Fn.go 15 func65 ntmps65 (λW I a U=>?_);refine yf λI a w U=>?_;refine U.rt ?_;rfl
def jJ (n a b:Int):
 Fn prog 86 [AV.int n,AV.int a,AV.int b] (AV.bool (aJ n a b)):=by
 refine Fn.go 15 func86 ntmps86 (λW I a U=>?_);refine yf λI a w U=>?_;refine U.rt ?_;exact bB (by simp only[aJ,ge_iff_le])
def tQ (n:Int):
 Fn prog 170 [AV.int n] (AV.bool (cM n)):=by
 refine Fn.go 5 func170 ntmps170 (λW I a U=>?_);refine aG λI a w U=>?_;refine U.o (.cl (jJ ..)) λU=>?_;refine bf ?_;rfl
def CG (n:Int):
 Fn prog 146 [AV.int n] (AV.bool (du n)):=by
 refine Fn.go 5 func146 ntmps146 (λW I a U=>?_);refine aG λI a w U=>?_;refine U.o (.cl (jI ..)) λU=>?_;refine bf ?_;rfl
def wR (n:Int):
 Fn prog 177 [AV.int n] (AV.bool (du n)):=by
 refine Fn.go 5 func177 ntmps177 (λW I a U=>?_);refine aG λI a w U=>?_;refine U.o (.cl (jJ ..)) λU=>?_;refine bf ?_;rfl
def yl (s:cE):
 Fn prog 179 [s.av] (AV.bool (dB s)):=by
 refine Fn.go 11 func179 ntmps179 (λW I a U=>?_);refine bx λI a w U=>?_;refine U.o (.cl (jJ ..)) λU=>?_;refine bk λI a w U=>?_;refine U.q .T (.cl (tQ ..)) λU=>?_;refine c8 ?_;rfl
def Ar (s t:cE):
 Fn prog 250 [s.av,t.av] (AV.bool (bQ s t)):=by
 refine Fn.go 24 func250 ntmps250 (λW I a U=>?_);refine Ft λI a w U=>?_;refine U.rt ?_;rfl
def lK (l:List aw) (k:Nat):Int:=if k=0 then-1 else(ab l (k-1)).key
def RA (l:List aw) (k:Nat):lK l (k+1)=(ab l k).key:=by simp[lK]
def RB {l:List aw} {k:Nat} (hk:k<l.length):ez (lK l k) (l.drop k)=(aJ (ab l k).key (lK l k+1) 5&&dB (ab l k).ar&&ez (lK l (k+1)) (l.drop (k+1))):=by
 rw[mN hk,RA];rfl
def RC {l:List aw} {k:Nat} (hp:-1<=lK l k):(!du (ab l k).key||!dB (ab l k).ar||(decide (0<(k:Int))&&decide ((ab l k).key<=(ab l ((k:Int)-1).toNat).key)))=!(aJ (ab l k).key (lK l k+1) 5&&dB (ab l k).ar):=by
 rw[show((k:Int)-1).toNat=k-1 from by omega];rcases Nat.eq_zero_or_pos k with rfl|h
 .simp[lK,du,aJ]
 have h0:k≠0:=by omega
 have J2:-1<=(ab l (k-1)).key:=by simpa[lK,h0] using hp
 have h1:(0<(k:Int)):=by omega
 simp only[lK,if_neg h0,du,aJ];generalize (ab l (k-1)).key=p at*;generalize (ab l k).key=q at*;rw[Bool.eq_iff_iff];cases dB (ab l k).ar<;>simp[h1]<;>omega
def abZ {l:List aw} {k:Nat} (hk:k<l.length) (hd:bT l=ez (lK l k) (l.drop k)) (hp:-1<=lK l k) (h:(aJ (ab l k).key (lK l k+1) 5&&dB (ab l k).ar)=true):
 k+1<=l.length/\bT l=ez (lK l (k+1)) (l.drop (k+1))/\-1<=lK l (k+1):=by
 refine⟨hk,by rw[hd,RB hk,h,Bool.true_and],?_⟩;rw[RA];simp[aJ] at h;omega
def ab0 {l:List aw} {k:Nat} (hk:k<l.length) (hd:bT l=ez (lK l k) (l.drop k)) (h:(aJ (ab l k).key (lK l k+1) 5&&dB (ab l k).ar)=false):false=bT l:=by
 rw[hd,RB hk,h,Bool.false_and]
def tT (l:List aw):
 Fn prog 90 [bE l] (AV.bool (bT l)):=by
 refine Fn.go 44 func90 ntmps90 (λW I a U=>?_);have hle:=U.eE (t:=0) rfl;refine aF λI a w U=>?_;refine St.lo (σ:=Nat) (run 42 2 []) ⟨λk=>[(3,AV.int k)],λk=>[],λk=>k<=l.length/\bT l=ez (lK l k) (l.drop k)/\-1<=lK l k⟩ (λk=>l.length-k) 0 U ?aI ?bF;case aI=>exact⟨by simp,rfl,by simp[lK]⟩
 rintro k I a w ao U;obtain⟨hk,hd,hp⟩:=ao;refine aX λI a w U=>?_;refine cz (λae=>?_) λae=>?_
 .refine zt ?_;refine U.dk ?_;refine fZ ?_;refine .o (.c1 (wR ..)) ?_;refine mA ?_;refine .q .F (.cl (yl ..)) ?_;refine pL ?_;refine eb ?_;refine .nil ?_;intro I a w U;refine bm ?_;refine U.cd (λah=>?_) λah=>?_
  .rw[RC hp] at ah;simp only[Bool.not_eq_true'] at ah;refine bf ?_;exact bB (ab0 ae hd ah)
  rw[RC hp] at ah;simp only[Bool.not_eq_false'] at ah;refine aR λI a w U=>?_;exact U.ag (k+1) (abZ ae hd hp ah)
 refine zt ?_;refine bf ?_;exact bB (by rw[hd,List.drop_eq_nil_of_le om];rfl)
def nt {b:Bool} (h:(!b)=true):b=false:=by simpa using h
def nf {b:Bool} (h:(!b)=false):b=true:=by simpa using h
def FG (l:List aw) (k:Nat) (t:Int):decide (t<=(ab l k).ar.time)=!decide ((ab l k).ar.time<t):=by
 rw[Bool.eq_iff_iff];simp
def J3 (v:aA):Bool:=du v.key&&dB v.ar&&aJ v.val 0 9999&&eF v.aj&&aJ v.call 1 99&&bT v.aQ
def FH (v:aA):(!du v.key||!dB v.ar||!aJ v.val 0 9999||!eF v.aj||!aJ v.call 1 99||!bT v.aQ)=!J3 v:=by simp[J3]
def As (v:aA):dN v=(J3 v&&E8 v.ar.time v.aQ):=rfl
def J4 (v:aA):
 Fn prog 251 [v.av] (AV.bool (dN v)):=by
 refine Fn.go 56 func251 ntmps251 (λW I a U=>?_);have J5:v.aQ.length<=9223372036854775807:=by
  obtain⟨cs,_,hc⟩:=U.env 0 _ rfl;obtain⟨u,_,hu,_⟩:=hc.get (i:=6) rfl;exact xW hu
 refine bx λI a w U=>?_;refine U.o (.c1 (wR ..)) λU=>?_;refine bx λI a w U=>?_;refine U.q .F (.cl (yl ..)) λU=>?_;refine bY λI a w U=>?_;refine U.q .F (.cl (jJ ..)) λU=>?_;refine bY λI a w U=>?_;refine U.q .F (.cl (jJ ..)) λU=>?_;refine bY λI a w U=>?_;refine U.q .F (.cl (jJ ..)) λU=>?_;refine bY λI a w U=>?_;refine U.q .F (.cl (tT ..)) λU=>?_;refine aF λI a w U=>?_;refine U.cd (λae=>?_) λae=>?_
 .rw[show aJ v.aj 0 1=eF v.aj from rfl,FH v] at ae;replace ae:=nt ae;refine bf ?_;exact bB (by rw[As,ae];rfl)
 rw[show aJ v.aj 0 1=eF v.aj from rfl,FH v] at ae;replace ae:=nf ae;refine aB λI a w U=>?_;refine St.lo (σ:=Nat) (run 2 2 (run 18 38 [])) ⟨λk=>[(3,AV.int k)],λk=>[],λk=>k<=v.aQ.length/\∀i,i<k->(λi=>decide ((ab v.aQ i).ar.time<v.ar.time)) i=true⟩ (λk=>v.aQ.length-k) 0 U ?aI ?bF;case aI=>exact⟨by simp,λi hi=>by omega⟩
 rintro k I a w ao U;obtain⟨hk,aM⟩:=ao;have hle:v.aQ.length<=9223372036854775807:=J5;refine cF λI a w U=>?_;refine cz (λah=>?_) λah=>?_
 .refine aB λI a w U=>?_;refine U.cd (λaq=>?_) λaq=>?_
  .rw[FG] at aq;replace aq:=nt aq;refine bf ?_;exact bB (by rw[As,ae];exact(eI (f:=(λi=>decide ((ab v.aQ i).ar.time<v.ar.time))) ah aq).symm)
  rw[FG] at aq;replace aq:=nf aq;refine aR λI a w U=>?_;exact U.ag (k+1) (⟨by omega,eY aM aq⟩)
 refine zt ?_;refine bf ?_;exact bB (by rw[As,ae];exact(eX aM om).symm)
def nA (v:aA):
 Fn prog 132 [v.av] (v.aU.av):=by
 refine Fn.go 8 func132 ntmps132 (λW I a U=>?_);refine bD λI a w U=>?_;refine U.alloc rfl cW gX λb2 I a w U=>?_;refine bx λI a w U=>?_;refine U.o (.bd gX (.k (.t aZ.nil))) λU=>?_;refine aB λI a w U=>?_;refine U.ret rfl (.cons (.sx 0) aV.nil) ?_;rfl
def RD (a b:aA):
 Fn prog 197 [a.av,b.av] (AV.bool (fP a b)):=by
 refine Fn.go 24 func197 ntmps197 (λW I a U=>?_);refine Q0 λI a w U=>?_;refine U.q .T2 (.cl (Ar ..)) λU=>?_;refine tO ?_;rfl
def wS (l:List aA):
 Fn prog 171 [bU l] (AV.bool (ct l)):=by
 refine Fn.go 36 func171 ntmps171 (λW I a U=>?_);have hle:=U.eE (t:=0) rfl;refine aX λI a w U=>?_;refine cz (λae=>?_) λae=>?_
 .refine bf ?_;exact bB (by simp[ct];omega)
 refine aB λI a w U=>?_;refine St.lo (σ:=Nat) (run 2 2 (run 29 7 [])) ⟨λk=>[(3,AV.int k)],λk=>[],λk=>k<=l.length/\∀i,i<k->(fO dN fP l) i=true⟩ (λk=>l.length-k) 0 U ?aI ?bF;case aI=>exact⟨by simp,λi hi=>by omega⟩
 rintro k I a w ao U;obtain⟨hk,aM⟩:=ao;refine aX λI a w U=>?_;refine cz (λah=>?_) λah=>?_
 .refine zt ?_;refine U.dk ?_;refine eb ?_;refine .o (.c1 (J4 ..)) ?_;refine tP ?_;refine .q .T2 (.cl (RD ..)) ?_;refine dO ?_;refine .nil ?_;intro I a w U;refine bm ?_;refine U.cd (λaq=>?_) λaq=>?_
  .rw[wD] at aq;replace aq:=nt aq;refine bf ?_;exact bB (by unfold ct;rw[eI (f:=(fO dN fP l)) ah aq];simp)
  rw[wD] at aq;replace aq:=nf aq;refine aR λI a w U=>?_;exact U.ag (k+1) (⟨by omega,eY aM aq⟩)
 refine zt ?_;refine bf ?_;exact bB (by unfold ct;rw[eX aM om,Bool.and_true];simp;omega)
def J6 (n:Int):
 Fn prog 222 [AV.int n] (AV.int (cV n)):=by
 refine Fn.go 9 func222 ntmps222 (λW I a U=>?_);refine aG λI a w U=>?_;refine U.o (.c1 (CG ..)) λU=>?_;refine aB λI a w U=>?_;refine cz (λae=>?_) λae=>?_
 .refine bf ?_;exact gx (by simp[cV,ae])
 refine bD λI a w U=>?_;refine U.o (mi .tt .c (λ_=>by simp[du,aJ] at ae;omega)) λU=>?_;refine U.o (z8 .tt .c (λ_=>by simp[du,aJ] at ae;omega)) λU=>?_;refine bf ?_;exact gx (by simp[cV,ae])
def wT (n:Int):
 Fn prog 297 [AV.int n] (AV.int (cV n)):=by
 refine Fn.go 9 func297 ntmps297 (λW I a U=>?_);refine aG λI a w U=>?_;refine U.o (.c1 (wR ..)) λU=>?_;refine aB λI a w U=>?_;refine cz (λae=>?_) λae=>?_
 .refine bf ?_;exact gx (by simp[cV,ae])
 refine bD λI a w U=>?_;refine U.o (mi .tt .c (λ_=>by simp[du,aJ] at ae;omega)) λU=>?_;refine U.o (z8 .tt .c (λ_=>by simp[du,aJ] at ae;omega)) λU=>?_;refine bf ?_;exact gx (by simp[cV,ae])
def bh {α:Type} [Inhabited α] {l:List α} {k:Nat} (h:k<l.length):ab l k∈l:=by
 unfold ab;rw[List.getD_eq_getElem?_getD,List.getElem?_eq_getElem h];exact List.getElem_mem _
def df {α:Type} (p:α->Bool) (l:List α):Int:=match l.findIdx? p with
 |some k=>k
 |none=>-1
def nB {α:Type} [Inhabited α] {p:α->Bool} {l:List α} {k:Nat} (hk:k<l.length) (h:∀i,i<k->p (ab l i)=false) (hp:p (ab l k)=true):df p l=k:=by
 have:l.findIdx? p=some k:=by
  rw[List.findIdx?_eq_some_iff_getElem];refine⟨hk,by simpa[ab,hk] using hp,λj hj=>?_⟩;have:=h j hj;have mo:j<l.length:=by omega
  simpa[ab,mo] using this
 unfold df;rw[this]
def mS {α:Type} [Inhabited α] {p:α->Bool} {l:List α} {k:Nat} (hk:l.length<=k) (h:∀i,i<k->p (ab l i)=false):df p l=-1:=by
 have:l.findIdx? p=none:=by
  rw[List.findIdx?_eq_none_iff];intro x hx;obtain⟨i,hi,rfl⟩:=List.getElem_of_mem hx;have:=h i om;simpa[ab,hi] using this
 unfold df;rw[this]
def ab1 {α:Type} (p:α->Bool) (l:List α):-1<=df p l:=by unfold df;split<;>omega
def hasB {α:Type} (p:α->Bool) (l:List α):Bool:=decide (0<=df p l)
def J7 {α:Type} [Inhabited α] {p:α->Bool} {l:List α} (h:0<=df p l):∃k,k<l.length/\p (ab l k)=true:=by
 unfold df at h;split at h
 .rename_i k hk;obtain⟨h1,h2,_⟩:=List.findIdx?_eq_some_iff_getElem.1 hk;exact⟨k,h1,by simpa[ab,h1] using h2⟩
 omega
def CH {α:Type} [Inhabited α] {p:α->Bool} {l:List α} (h:df p l<0):∀k,k<l.length->p (ab l k)=false:=by
 unfold df at h;split at h
 .omega
 rename_i hn;rw[List.findIdx?_eq_none_iff] at hn;intro k hk;have:=hn (ab l k) (by unfold ab;rw[List.getD_eq_getElem?_getD,List.getElem?_eq_getElem hk];exact List.getElem_mem _);exact this
def mC (d:aw) (v:aA):Bool:=decide (v.aU=d)
def placeOf (l:List aA) (d:aw):Int:=df (mC d) l
def ab2 (d:aw) (v:aA):([v.key,v.ar.time,v.ar.site]==[d.key,d.ar.time,d.ar.site])=mC d v:=by
 obtain⟨k,⟨t,s⟩⟩:=d;obtain⟨vk,⟨vt,vs⟩,_,_,_,_⟩:=v;rw[Bool.eq_iff_iff];simp[mC,aA.aU,Bool.and_eq_true]
def J8 (l:List (aA)) (p:(aA)->Bool) (fv:AV) (hf:∀x:aA,x∈l->lh prog fv [x.av] (AV.bool (p x))):
 Fn prog 218 [bU l,fv] (AV.int (df p l)):=by
 refine Fn.go 19 func218 ntmps218 (λW I a U=>?_);have hle:=U.eE (t:=0) rfl;refine aX λI a w U=>?_;refine St.lo (σ:=Nat) (run 2 4 (run 11 8 [])) ⟨λk=>[(8,AV.int k)],λk=>[],λk=>k<=l.length/\∀i,i<k->p (ab l i)=false⟩ (λk=>l.length-k) 0 U ?aI ?bF;case aI=>exact⟨Nat.zero_le _,λi hi=>by omega⟩
 rintro k I a w ao U;obtain⟨hk,aM⟩:=ao;refine aB λI a w U=>?_;refine cz (λae=>?_) λae=>?_
 .refine g9 λI a w U=>?_;refine U.o (qp (hf _ (bh ae)) .tt (ax .tt aH)) λU=>?_;refine zt ?_;refine U.cd (λah=>?_) λah=>?_
  .refine c8 ?_;exact gx (nB ae aM ah).symm
  refine aF λI a w U=>?_;exact U.ag (k+1) (⟨ae,λi h1=>by rcases Nat.lt_succ_iff_lt_or_eq.1 h1 with h|h;exact aM i h;rw[h];exact ah⟩)
 refine zt ?_;refine bf ?_;exact gx (mS om aM).symm
def J9 (l:List (aA)) (p:(aA)->Bool) (fv:AV) (hf:∀x:aA,x∈l->lh prog fv [x.av] (AV.bool (p x))):
 Fn prog 184 [bU l,fv] (AV.bool (hasB p l)):=by
 refine Fn.go 9 func184 ntmps184 (λW I a U=>?_);refine bk λI a w U=>?_;refine U.o (.cl (J8 _ _ _ hf)) λU=>?_;refine c8 ?_;rfl
def ab3 (v:aA) (d:aw):
 Fn prog 219 [v.av,AV.ptr d.cells] (AV.bool (mC d v)):=by
 refine Fn.go 8 func219 ntmps219 (λW I a U=>?_);refine aF λI a w U=>?_;refine U.dk ?_;refine bG ?_;refine .o (.c1 (nA ..)) ?_;refine bG ?_;refine .o (nr [_,_,_] [_,_,_] wQ rfl rfl .tt .tt) ?_;refine bG ?_;refine .nil ?_;intro I a w U;refine zt ?_;refine U.rt ?_;exact bB (ab2 d v)
def oH (l:List aA) (d:aw):
 Fn prog 131 [bU l,d.av] (AV.int (placeOf l d)):=by
 refine Fn.go 8 func131 ntmps131 (λW I a U=>?_);refine bk λI a w U=>?_;refine U.o (nu (ax .tt aH)) λU=>?_;refine U.o (.cl (J8 l (mC d) _ (λv _=>Fn.val (ab3 v d)))) λU=>?_;refine bf ?_;rfl
def missing (l:List aA) (d:aw):Bool:=decide (placeOf l d<0)
def tU (l:List aA) (ds:List aw):Bool:=!hasB (missing l) ds
def cP (s:Server) (key:Int):Int:=(ab s.aD (cV key).toNat).cm
def sh (x:de):Bool:=aJ x.bw 0 9999&&aJ x.cm 0 2&&!((x.cm !=0)&&(x.bw==0))
def vm (s:Server):Bool:=cM s.site&&decide (s.aD.length=3)&&ct s.an&&ct s.waits&&gz s.aE&&gz s.ba&&!(!s.up&&decide (0<s.ba.length))
def tV (s:Server) (i:Nat):Bool:=sh (ab s.aD i)
def vn (s:Server) (i:Nat):Bool:=cP s (ab s.an i).key !=0
def vo (s:Server) (v:aA):Bool:=(cP s v.key !=0)&&(bM v.ar.site !=bM s.site)&&decide (placeOf s.an v.aU<0)
def tW (s:Server) (i:Nat):Bool:=vo s (ab s.waits i)
def iB (s:Server):Bool:=vm s&&cI s.aD.length (tV s)&&cI s.an.length (vn s)&&cI s.waits.length (tW s)&&tU s.an s.aE
def wU {l:List aA} (h:ct l=true) {k:Nat} (hk:k<l.length):dN (ab l k)=true:=by
 unfold ct at h;rw[Bool.and_eq_true,gF] at h;have:=h.2 k hk;unfold fO at this;rw[Bool.and_eq_true] at this;exact this.1
def si {v:aA} (h:dN v=true):du v.key=true:=by
 simp only[dN,Bool.and_eq_true] at h;exact h.1.1.1.1.1.1
def CI {s:Server} (h:vm s=true):s.aD.length=3/\ct s.an=true/\ct s.waits=true/\gz s.aE=true/\gz s.ba=true/\cM s.site=true:=by
 simp only[vm,Bool.and_eq_true,decide_eq_true_eq] at h;exact⟨h.1.1.1.1.1.2,h.1.1.1.1.2,h.1.1.1.2,h.1.1.2,h.1.2,h.1.1.1.1.1.1⟩
def sj {n:Int} (h:du n=true):0<=cV n/\cV n<3:=by
 unfold cV;simp only[h,if_true];simp[du,aJ] at h;omega
def Ka (s:Server) (key:Int) (hk:du key=true) (hl:s.aD.length=3):
 Fn prog 141 [s.av,AV.int key] (AV.int (cP s key)):=by
 refine Fn.go 12 func141 ntmps141 (λW I a U=>?_);have hr:=sj hk;refine aF λI a w U=>?_;refine U.dk ?_;refine dO ?_;refine .o (.c1 (J6 ..)) ?_;refine eb ?_;refine .nil ?_;intro I a w U;refine zt ?_;refine U.rt ?_;rfl
def gI:List aw->aw->List aw
 |[],d=>[d]
 |e::r,d=>if e.key=d.key then(if bQ e.ar d.ar then d else e)::r else if d.key<e.key then d::e::r else e::gI r d
def Kb:∀{l:List aw} {last:Int},ez last l=true->∀d∈l,last<d.key/\d.key<=5/\dB d.ar=true
 |[],_,_,d,hd=>by simp at hd
 |e::r,last,h,d,hd=>by
  simp only[ez,Bool.and_eq_true,aJ,decide_eq_true_eq] at h;rcases List.mem_cons.1 hd with rfl|hd
  .exact⟨by omega,h.1.1.2,h.1.2⟩
  have:=Kb h.2 d hd;exact⟨by omega,this.2⟩
def fS {α:Type} [Inhabited α] {l:List α} {x:α} (h:x∈l):∃k,k<l.length/\ab l k=x:=by
 obtain⟨k,hk,rfl⟩:=List.getElem_of_mem h;exact⟨k,hk,by simp[ab,hk]⟩
def RE:∀{l:List aw} {last:Int},ez last l=true->∀{i j:Nat},i<j->j<l.length->(ab l i).key<(ab l j).key
 |[],_,_,i,j,_,hj=>by simp at hj
 |e::r,last,h,0,j+1,_,hj=>by
  simp only[ez,Bool.and_eq_true] at h;have uY:j<r.length:=by simpa using hj
  exact(Kb h.2 _ (bh uY)).1
 |e::r,last,h,i+1,j+1,j5,hj=>by
  simp only[ez,Bool.and_eq_true] at h;exact RE h.2 (i:=i) (j:=j) om (by simpa using hj)
def RF:∀(l:List aw) (last:Int),ez last l=true->last<=5->(l.length:Int)<=5-last
 |[],last,_,h=>by simp;omega
 |d::r,last,h,hl=>by
  simp only[ez,Bool.and_eq_true,aJ,decide_eq_true_eq] at h;have:=RF r d.key h.2 om;simp;omega
def iV {l:List aw} (h:bT l=true):l.length<=6:=by
 have:=RF l (-1) h om;omega
def CJ {l:List aw} (h:bT l=true) {i j:Nat} (j5:i<j) (hj:j<l.length):(ab l i).key<(ab l j).key:=RE h j5 hj
structure lL (l:List aw) (d:aw) (k:Nat) (done:Bool) (out:List aw):Prop where
 hk:k<=l.length
 eq:gI l d=if done then out++l.drop k else out++gI (l.drop k) d
 late:done=true->∀i,k<=i->i<l.length->d.key<(ab l i).key
 len:out.length<=k+done.toNat
def lL.zero (l:List aw) (d:aw):lL l d 0 false []:=⟨Nat.zero_le _,by simp,(λh=>by cases h),by simp⟩
section
variable {l:List aw} {d:aw} {k:Nat} {out:List aw} {done:Bool}
def lL.same (hp:lL l d k done out) (hl:bT l=true) (h:k<l.length) (he:(ab l k).key=d.key):done=false/\lL l d (k+1) true (out++[if bQ (ab l k).ar d.ar then d else ab l k]):=by
 have hd:done=false:=by
  cases done
  .rfl
  have:=hp.late rfl k (Nat.le_refl _) h;omega
 subst hd;refine⟨rfl,h,?_,λ_ i hi lI=>?_,by have:=hp.len;simp at this⊢;omega⟩
 .have:=hp.eq;rw[mN h] at this;simp only[gI,if_pos he] at this;rw[this];simp
 rw[<-he];exact CJ hl om lI
def lL.before (hp:lL l d k false out) (hl:bT l=true) (h:k<l.length) (he:d.key<(ab l k).key):lL l d (k+1) true ((out++[d])++[ab l k]):=by
 refine⟨h,?_,λ_ i hi lI=>?_,by have:=hp.len;simp at this⊢;omega⟩
 .have:=hp.eq;rw[mN h] at this;simp only[gI,if_neg (show¬(ab l k).key=d.key by omega),if_pos he] at this;rw[this];simp
 have:=CJ hl (i:=k) (j:=i) om lI;omega
def lL.step (hp:lL l d k done out) (h:k<l.length) (he:(ab l k).key≠d.key) (hn:done=false->(ab l k).key<=d.key):lL l d (k+1) done (out++[ab l k]):=by
 refine⟨h,?_,λhd i hi lI=>hp.late hd i om lI,by have:=hp.len;simp;omega⟩;have:=hp.eq;cases done
 .rw[mN h] at this;have:=hn rfl;simp_all only[gI];simp;omega
 simp only[if_true] at this⊢;rw[this,mN h];simp
def lL.vp (hp:lL l d k true out) (h:l.length<=k):out=gI l d:=by
 have:=hp.eq;rw[List.drop_eq_nil_of_le h] at this;simpa using this.symm
def lL.vq (hp:lL l d k false out) (h:l.length<=k):out++[d]=gI l d:=by
 have:=hp.eq;rw[List.drop_eq_nil_of_le h] at this;simpa[gI] using this.symm
end
def Kc {α:Type} [Inhabited α] {p:α->Bool} {l:List α} (h:hasB p l=true):∃x∈l,p x=true:=by
 simp only[hasB,decide_eq_true_eq] at h;obtain⟨k,hk,hp⟩:=J7 h;exact⟨_,bh hk,hp⟩
def FI {α:Type} [Inhabited α] {p:α->Bool} {l:List α} {x:α} (h:x∈l) (hp:p x=true):hasB p l=true:=by
 simp only[hasB,decide_eq_true_eq];rcases Int.lt_or_le (df p l) 0 with hn|hn
 .obtain⟨k,hk,rfl⟩:=fS h;rw[CH hn k hk] at hp;cases hp
 exact hn
def ym {α:Type} [Inhabited α] (p:α->Bool) (l:List α):(!hasB p l)=cI l.length λi=>!p (ab l i):=by
 rw[Bool.eq_iff_iff,gF];constructor
 .intro h i hi;simp only[Bool.not_eq_true'] at h⊢;cases hp:p (ab l i)
  .rfl
  rw[FI (bh hi) hp] at h;cases h
 intro h;simp only[Bool.not_eq_true'];cases hh:hasB p l
 .rfl
 obtain⟨x,hx,hp⟩:=Kc hh;obtain⟨k,hk,rfl⟩:=fS hx;have:=h k hk;rw[hp] at this;cases this
def iW {v:aA} (h:dN v=true):du v.key=true/\dB v.ar=true/\bT v.aQ=true:=by
 simp only[dN,Bool.and_eq_true] at h;exact⟨h.1.1.1.1.1.1,h.1.1.1.1.1.2,h.1.2⟩
def RG:∀(l:List aw) (last:Int),ez last l=true->last<=5->(l.length:Int)<=5-last
 |[],last,_,h=>by simp;omega
 |d::r,last,h,hl=>by
  simp only[ez,Bool.and_eq_true,aJ,decide_eq_true_eq] at h;have:=RG r d.key h.2 om;simp;omega
def ab4 {l:List aw} (h:bT l=true):l.length<=6:=by
 have:=RG l (-1) h om;omega
def ab5 {v:aA} (h:dN v=true):v.aQ.length<=6:=by
 simp only[dN,Bool.and_eq_true] at h;exact ab4 h.1.2
def lq (l:List aA) (d:aw):Option aA:=if ct l=true/\0<=placeOf l d then some (ab l (placeOf l d).toNat) else none
def FJ (key:Int) (st:cE) (v:aA):((v.key==key)&&([v.ar.time,v.ar.site]==[st.time,st.site]))=mC ⟨key,st⟩ v:=by
 obtain⟨t,s⟩:=st;obtain⟨vk,⟨vt,vs⟩,_,_,_,_⟩:=v;rw[Bool.eq_iff_iff];simp[mC,aA.aU]
def ab6 {l:List aA} {d:aw} {k:Nat} (hc:ct l=true) (hk:k<l.length) (h:∀i,i<k->mC d (ab l i)=false) (hp:mC d (ab l k)=true):lq l d=some (ab l k):=by
 have e:placeOf l d=k:=nB hk h hp;unfold lq;rw[e,if_pos ⟨hc,by omega⟩];rfl
def ab7 {l:List aA} {d:aw} {k:Nat} (hk:l.length<=k) (h:∀i,i<k->mC d (ab l i)=false):lq l d=none:=by
 have e:placeOf l d=-1:=mS hk h;unfold lq;rw[e,if_neg om]
def ab8 {l:List aA} {d:aw} (h:ct l=false):lq l d=none:=by
 unfold lq;rw[if_neg (by rw[h];simp)]
def Au {l:List aA} {d:aw} (hc:ct l=true):(lq l d).isSome=decide (0<=placeOf l d):=by
 unfold lq;by_cases h:0<=placeOf l d
 .rw[if_pos ⟨hc,h⟩];simp[h]
 rw[if_neg (by simp[h])];simp[h]
def qB (v:aA) (h:v.aQ.length<=1048576):
 Fn prog 198 [v.av] (v.av):=by
 refine Fn.go 9 func198 ntmps198 (λW I a U=>?_);refine sr<|U.box rfl .tt λb1 I a w U=>U.alloc rfl bL ee λb2 I a w U=>?_;refine zt ?_;refine U.l0 λb3 I a w U=>?_;refine aG λI a w U=>?_;refine U.ap 2 λv6 a w U=>?_;obtain⟨I,U⟩:=U.fr 2 6;refine aX λI a w U=>?_;refine U.ret rfl (.cons (.sx 1) aV.nil) ?_;rfl
def vr (l:List aA) (key:Int) (st:cE):
 Fn prog 174 [bU l,AV.int key,st.av] (AV.dG [((lq l ⟨key,st⟩).getD default).av,AV.bool (lq l ⟨key,st⟩).isSome]):=by
 refine Fn.go 41 func174 ntmps174 (λW I a U=>?_);have hle:=U.eE (t:=0) rfl;refine bD λI a w U=>?_;refine U.alloc rfl bL ee λb6 I a w U=>?_;refine aG λI a w U=>?_;refine U.o (.cl (wS ..)) λU=>?_;refine aB λI a w U=>?_;refine U.cd (λae=>?_) λae=>?_
 .replace ae:=nt ae;refine zt ?_;refine U.o (.bd ee aZ.nil) λU=>?_;refine aF λI a w U=>?_;refine U.ret rfl (.cons (.sx 0) (.cons (.t rfl) aV.nil)) ?_;exact(by rw[ab8 ae];rfl)
 replace ae:=nf ae;refine aB λI a w U=>?_;refine St.lo (σ:=Nat) (run 2 7 (run 27 13 [])) ⟨λk=>[(8,AV.int k)],λk=>[Own.box b6 54 [AV.val (.int .i64 0),AV.val (.int .i64 0),AV.val (.int .i64 0),AV.val (.int .i64 0),AV.val (.int .i64 0),AV.val (.int .i64 0),AV.rows 3 []]],λk=>k<=l.length/\∀i,i<k->mC ⟨key,st⟩ (ab l i)=false⟩ (λk=>l.length-k) 0 U ?aI ?bF;case aI=>exact⟨Nat.zero_le _,λi hi=>by omega⟩
 rintro k I a w ao U;obtain⟨hk,aM⟩:=ao;refine aX λI a w U=>?_;refine cz (λah=>?_) λah=>?_
 .refine zt ?_;refine U.dk ?_;refine tP ?_;refine .q .T (nr [_,_] [_,_] nz rfl rfl .ag .ag) ?_;refine bG ?_;refine .nil ?_;intro I a w U;refine bm ?_;refine U.cd (λaq=>?_) λaq=>?_
  .rw[FJ] at aq;refine bx λI a w U=>?_;refine U.o (bO (qB _ (by have:=ab5 (wU ae ah);omega)) (ax (.t rfl) aH)) λU=>?_;refine aF λI a w U=>?_;refine U.ret rfl (.cons (.sx 0) (.cons (.t rfl) aV.nil)) ?_;exact(by rw[ab6 ae ah aM aq];rfl)
  rw[FJ] at aq;refine aR λI a w U=>?_;exact U.ag (k+1) (⟨ah,λi h1=>by rcases Nat.lt_succ_iff_lt_or_eq.1 h1 with h|h;exact aM i h;rw[h];exact aq⟩)
 refine zt ?_;refine U.o (.bd ee aZ.nil) λU=>?_;refine aF λI a w U=>?_;refine U.ret rfl (.cons (.sx 0) (.cons (.t rfl) aV.nil)) ?_;exact(by rw[ab7 om aM];rfl)
def fJ:List aA->aA->List aA
 |[],v=>[v]
 |x::r,v=>if fP x v then x::fJ r v else v::x::r
def qC:List aA->aA->List aA
 |[],v=>[v]
 |x::r,v=>if fP v x then v::x::r else x::qC r v
def FK {a b:aw} (h:eQ a b=false) (h':eQ b a=false):a=b:=by
 obtain⟨k,⟨t,s⟩⟩:=a;obtain⟨k',⟨t',s'⟩⟩:=b;simp[eQ,bQ] at h h';simp;omega
def ab9 {a b:aw} (h:eQ a b=true):eQ b a=false:=by
 obtain⟨k,⟨t,s⟩⟩:=a;obtain⟨k',⟨t',s'⟩⟩:=b;simp[eQ,bQ] at h⊢;omega
def wV (a:aw):eQ a a=false:=by simp[eQ,bQ]
def Av {a b d:aw} (h:eQ a b=true) (h':eQ b d=true):eQ a d=true:=by
 obtain⟨k,⟨t,s⟩⟩:=a;obtain⟨k',⟨t',s'⟩⟩:=b;obtain⟨k2,⟨t2,s2⟩⟩:=d;simp[eQ,bQ] at h h'⊢;omega
def VS (l:List aA):Prop:=l.Pairwise λa b=>fP a b=true
def Kd:∀{l:List aA} {v:aA},(∀x∈l,x.aU≠v.aU)->qC l v=fJ l v
 |[],_,_=>rfl
 |x::r,v,h=>by
  have hx:=h x bn;have ih:=Kd (l:=r) (v:=v) λy hy=>h y (by simp[hy]);unfold fJ qC;cases h1:fP v x
  .cases h2:fP x v
   .exact absurd (FK h2 h1) hx
   simp[ih]
  rw[show fP x v=false from ab9 h1];simp
def hC:∀{l:List aA} {v x:aA},x∈fJ l v↔x=v\/x∈l
 |[],v,x=>by simp[fJ]
 |y::r,v,x=>by
  unfold fJ;split
  .rw[List.mem_cons,hC (l:=r),List.mem_cons];constructor
   .rintro(h|h|h)<;>simp[h]
   rintro(h|h|h)<;>simp[h]
  rw[List.mem_cons]
def RH (l:List aA) (v:aA):(fJ l v).length=l.length+1:=by
 induction l with
 |nil=>rfl
 |cons x r ih=>unfold fJ;split<;>simp[ih]
def Ke:∀{l:List aA} {v:aA},VS l->(∀x∈l,x.aU≠v.aU)->VS (fJ l v)
 |[],v,_,_=>by simp[fJ,VS]
 |x::r,v,h,hd=>by
  unfold VS at h;rw[List.pairwise_cons] at h;unfold fJ;split
  .rename_i bz;unfold VS;rw[List.pairwise_cons];refine⟨λy hy=>?_,Ke h.2 λy hy=>hd y (by simp[hy])⟩;rcases hC.1 hy with rfl|hy
   .exact bz
   exact h.1 y hy
  rename_i bz;have h1:fP v x=true:=by
   cases h1:fP v x
   .simp only[Bool.not_eq_true] at bz;exact absurd (FK bz h1) (hd x bn)
   rfl
  unfold VS;rw[List.pairwise_cons,List.pairwise_cons];refine⟨λy hy=>?_,h.1,h.2⟩;rcases List.mem_cons.1 hy with rfl|hy
  .exact h1
  exact Av h1 (h.1 y hy)
def pN {l:List aA} {d:aw} (h:placeOf l d<0):∀x∈l,x.aU≠d:=λx hx he=>by
 obtain⟨k,hk,rfl⟩:=fS hx;have:=CH h k hk;simp[mC] at this;exact this he
def yn {l:List aA} {d:aw} (h:∀x∈l,x.aU≠d):placeOf l d<0:=by
 rcases Int.lt_or_le (placeOf l d) 0 with hn|hn
 .exact hn
 obtain⟨k,hk,hp⟩:=J7 hn;simp[mC] at hp;exact absurd hp (h _ (bh hk))
def l7 {l:List aA} {d:aw} (h:0<=placeOf l d):(placeOf l d).toNat<l.length/\(ab l (placeOf l d).toNat).aU=d:=by
 unfold placeOf df at*;split at h
 .rename_i k hk;obtain⟨h1,h2,_⟩:=List.findIdx?_eq_some_iff_getElem.1 hk;refine⟨by simpa using h1,?_⟩;simp only[Int.toNat_natCast];simpa[ab,h1,mC] using h2
 omega
def RI {α:Type} [Inhabited α] {R:α->α->Prop} (tr:∀{a b d},R a b->R b d->R a d) {l:List α} (h:∀i,0<i->i<l.length->R (ab l (i-1)) (ab l i)):l.Pairwise R:=by
 rw[List.pairwise_iff_getElem];intro i j hi hj j5;have e:∀k (hk:k<l.length),l[k]=ab l k:=λk hk=>by simp[ab,hk]
 rw[e i hi,e j hj];obtain⟨n,rfl⟩:∃n,j=i+1+n:=⟨j-(i+1),by omega⟩;clear j5;induction n with
 |zero=>have:=h (i+1) om hj;simpa using this
 |succ n ih=>
  have h1:=ih om
  have h2:=h (i+1+(n+1)) om hj
  rw[show i+1+(n+1)-1=i+1+n from by omega] at h2
  exact tr h1 h2
def fw {l:List aA} (h:ct l=true):∀x∈l,dN x=true:=λx hx=>by
 obtain⟨k,hk,rfl⟩:=fS hx;exact wU h hk
def ga {l:List aA} (h:ct l=true):l.length<=80:=by
 unfold ct at h;rw[Bool.and_eq_true,decide_eq_true_eq] at h;exact h.1
structure n8 (l:List aA) (v:aA) (k:Nat) (done:Bool) (out:List aA):Prop where
 hk:k<=l.length
 eq:qC l v=if done then out++l.drop k else out++qC (l.drop k) v
 len:out.length<=k+done.toNat
def n8.zero (l:List aA) (v:aA):n8 l v 0 false []:=⟨Nat.zero_le _,by simp,by simp⟩
section
variable {l:List aA} {v:aA} {k:Nat} {out:List aA} {done:Bool}
def n8.before (hp:n8 l v k false out) (h:k<l.length) (he:fP v (ab l k)=true):n8 l v (k+1) true ((out++[v])++[ab l k]):=by
 refine⟨h,?_,by have:=hp.len;simp at this⊢;omega⟩;have:=hp.eq;rw[mN h] at this;simp only[qC,if_pos he] at this;rw[this];simp
def n8.step (hp:n8 l v k done out) (h:k<l.length) (he:done=true\/fP v (ab l k)=false):n8 l v (k+1) done (out++[ab l k]):=by
 refine⟨h,?_,by have:=hp.len;simp;omega⟩;have:=hp.eq;cases done
 .rw[mN h] at this;have he:fP v (ab l k)=false:=he.resolve_left bn;simp only[qC,he] at this;rw[this];simp
 simp only[if_true] at this⊢;rw[this,mN h];simp
def n8.vp (hp:n8 l v k true out) (h:l.length<=k):out=qC l v:=by
 have:=hp.eq;rw[List.drop_eq_nil_of_le h] at this;simpa using this.symm
def n8.vq (hp:n8 l v k false out) (h:l.length<=k):out++[v]=qC l v:=by
 have:=hp.eq;rw[List.drop_eq_nil_of_le h] at this;simpa[qC] using this.symm
end
def iO (l:List aA) (v:aA):Bool:=dN v&&decide (placeOf l v.aU<0)&&decide (l.length<80)
def fj (slot:Int) (v:aA):Bool:=cV v.key==slot
def fy (l:List aw) (d:aw):Int:=df (λe=>decide (e=d)) l
def lM:List aw->aw->List aw
 |[],d=>[d]
 |e::r,d=>if eQ d e then d::e::r else e::lM r d
structure n9 (l:List aw) (v:aw) (k:Nat) (done:Bool) (out:List aw):Prop where
 hk:k<=l.length
 eq:lM l v=if done then out++l.drop k else out++lM (l.drop k) v
 len:out.length<=k+done.toNat
def n9.zero (l:List aw) (v:aw):n9 l v 0 false []:=⟨Nat.zero_le _,by simp,by simp⟩
section
variable {l:List aw} {v:aw} {k:Nat} {out:List aw} {done:Bool}
def n9.before (hp:n9 l v k false out) (h:k<l.length) (he:eQ v (ab l k)=true):n9 l v (k+1) true ((out++[v])++[ab l k]):=by
 refine⟨h,?_,by have:=hp.len;simp at this⊢;omega⟩;have:=hp.eq;rw[mN h] at this;simp only[lM,if_pos he] at this;rw[this];simp
def n9.step (hp:n9 l v k done out) (h:k<l.length) (he:done=true\/eQ v (ab l k)=false):n9 l v (k+1) done (out++[ab l k]):=by
 refine⟨h,?_,by have:=hp.len;simp;omega⟩;have:=hp.eq;cases done
 .rw[mN h] at this;have he:eQ v (ab l k)=false:=he.resolve_left bn;simp only[lM,he] at this;rw[this];simp
 simp only[if_true] at this⊢;rw[this,mN h];simp
def n9.vp (hp:n9 l v k true out) (h:l.length<=k):out=lM l v:=by
 have:=hp.eq;rw[List.drop_eq_nil_of_le h] at this;simpa using this.symm
def n9.vq (hp:n9 l v k false out) (h:l.length<=k):out++[v]=lM l v:=by
 have:=hp.eq;rw[List.drop_eq_nil_of_le h] at this;simpa[lM] using this.symm
end
def eG (s:Server) (d:aw):Bool:=decide (0<=placeOf s.an d)||decide (0<=fy s.ba d)
def yo (s:Server) (v:aA):Bool:=cI v.aQ.length λi=>eG s (ab v.aQ i)
def sk (d:aw) (v:aA):Bool:=decide (0<=fy v.aQ d)
def iq (s:Server) (d:aw):Bool:=!cI s.waits.length λi=>!sk d (ab s.waits i)
def fE (s:Server) (key:Int):Bool:=du key&&(cP s key==1)
def iC (s:Server) (v:aA):Bool:=(cP s v.key==1)&&yo s v
def dI (s:Server):Int:=if s.an.length<80 then df (iC s) s.waits else-1
def mT (s:Server) (n:Nat):Server:={s with an:=fJ s.an (ab s.waits n),waits:=s.waits.take n++s.waits.drop (n+1)}
def jl:Nat->Server->Server
 |0,s=>s
 |n+1,s=>if dI s<0 then s else jl n (mT s (dI s).toNat)
def ir (s:Server):Server:=jl s.waits.length s
def FL (s:Server):Server:={s with ba:=s.ba.filter (iq s)}
def ef (s:Server):Server:=FL (ir s)
def wW {s:Server} (h:0<=dI s):(dI s).toNat<s.waits.length/\s.an.length<80/\iC s (ab s.waits (dI s).toNat)=true:=by
 unfold dI at*;split at h
 .rename_i hl;rw[if_pos hl];unfold df at*;split at h
  .rename_i k hk;obtain⟨h1,h2,_⟩:=List.findIdx?_eq_some_iff_getElem.1 hk;exact⟨by simpa using h1,hl,by simpa[ab,h1] using h2⟩
  omega
 omega
def FM {s:Server} {n:Nat} (h:n<s.waits.length):(mT s n).waits.length=s.waits.length-1:=by simp[mT];omega
def RJ {s:Server} (h:0<=dI s):ir s=ir (mT s (dI s).toNat):=by
 have hl:=(wW h).1;unfold ir;rw[FM hl];obtain⟨n,hn⟩:∃n,s.waits.length=n+1:=⟨s.waits.length-1,by omega⟩;rw[hn];show(if dI s<0 then s else _)=_;rw[if_neg om];rfl
def RL {s:Server} (h:dI s<0):ir s=s:=by
 unfold ir;cases s.waits.length with
 |zero=>rfl
 |succ n=>show(if dI s<0 then s else _)=_;rw[if_pos h]
structure fK (s:Server):Prop where
 aD:s.aD.length=3
 an:ct s.an=true
 waits:ct s.waits=true
 apart:∀v∈s.waits,placeOf s.an v.aU<0
 ba:s.ba.length<=80
def gY (slot:Int) (d:aw):Bool:=cV d.key==slot
def eh (s:Server) (slot:Int):Server:=
 {s with an:=s.an.filter λv=>!fj slot v,waits:=s.waits.filter λv=>!fj slot v,aE:=s.aE.filter λd=>!gY slot d}
def lr (s:Server) (m:az):Server:=let x:=eh s m.slot;{x with aD:=x.aD.set m.slot.toNat ⟨m.bw,0⟩}
def cJ {α:Type} {f:α->List AV} (l:List α) (x:α):l.map f++[f x]=(l++[x]).map f:=by simp
def vu (l:List aw) (h:l.length<=1048576):
 Fn prog 138 [bE l] (bE l):=by
 refine Fn.go 5 func138 ntmps138 (λW I a U=>?_);refine aG λI a w U=>?_;have U:=U.ik (sz:=3) 125;refine U.append 0 rfl dX cW rfl .c .r rfl ig λv4 a w U=>?_;obtain⟨I,U⟩:=U.fr 0 4;refine bf ?_;rfl
def aca (v:Value) (l:List (List AV)) (x:List AV) (i:Nat) (hi:i<=l.length) (hl:l.length<=1048576) (fi:∀r∈l,r.length=7) (hx:x.length=7):
 jV prog 220 [AV.val v,AV.int i,AV.rows 7 [x]] [Own.row v 54 7 l] [] (AV.rows 7 (l.take i++x::l.drop i)):=by
 refine jV.intro 95 func220 rfl ntmps220 rfl aO (λW I a U=>?_);obtain⟨q,cap,rfl,nX⟩:=U.Cs 0 rfl;refine bk λI a w U=>?_;refine U.o (Jp di bL .tt .tt ⟨by omega,by omega⟩ nX) λU=>?_;refine bD λI a w U=>?_;refine U.o (BV di .tt) λU=>?_;rw[show(([x]:List (List AV)).length:Int)=1 from rfl] at U;refine aR λI a w U=>?_;refine U.cd (λae=>?_) λae=>?_
 .exfalso;simp at ae;skip
 refine iM λI a w U=>?_;refine cz (λah=>?_) λah=>?_
 .refine aG λI a w U=>?_;refine U.append 0 rfl di bL rfl .tt .tt rfl (by simp only[List.length_singleton];omega) λyp a w U=>?_;obtain⟨I,U⟩:=U.fr 0 25;have U:=U.drop 0;refine aB λI a w U=>?_;refine U.vb rfl (.cons .x .nil) rfl ?_;exact congrArg (AV.rows 7) (by rw[show i=l.length by omega];simp)
 refine bx λI a w U=>?_;refine U.o (Co di .tt) λU=>?_;refine aB λI a w U=>?_;refine cz (λaq=>?_) λaq=>?_
 .refine zt ?_;have aW:l≠[]:=by intro e;rw[e] at hi ah;simp at hi ah;omega
  obtain⟨b,pw,he,ml,js,n7,U⟩:=U.u9 0 rfl aW;simp only[Value.slice.injEq] at he;obtain⟨rfl,_,rfl⟩:=he;have hA:(l.take i).flatten.length=i*7:=by rw[iz λr hr=>fi r (List.mem_of_mem_take hr),List.length_take,Nat.min_eq_left hi]
  have hB:(l.drop i).flatten.length=(l.length-i)*7:=by rw[iz λr hr=>fi r (List.mem_of_mem_drop hr),List.length_drop]
  rw[show l.flatten=(l.take i).flatten++(l.drop i).flatten by rw[<-List.flatten_append,List.take_append_drop],List.map_append] at U;have iu:([x]:List (List AV)).flatten.length=7:=by simpa using hx
  have hlen:(l.take i++x::l.drop i).length=l.length+1:=by simp;omega
  have oa:∀r∈l.take i++x::l.drop i,r.length=7:=λr hr=>(List.mem_append.1 hr).elim (λh=>fi r (List.mem_of_mem_take h)) λh=>(List.mem_cons.1 h).elim (λe=>e▸hx) λh=>fi r (List.mem_of_mem_drop h);have sq:(l.take i++x::l.drop i).flatten.map some=(l.take i).flatten.map some++([x]:List (List AV)).flatten.map some++(l.drop i).flatten.map some:=by simp
  refine aG λI a w U=>?_;refine U.o (tH (hi:=i) di bL .tt .tt rfl om om) λU=>?_;refine bY λI a w U=>?_;refine U.Jr (fQ:=l.length+1-i) (xs:=(l.take i).flatten) 0 di oG bL rfl aP .tt .tt om om rfl (by rw[List.drop_zero,List.append_assoc];exact lJ _ (List.length_map _)) hA om om om rfl λ{gb yq a w} lY qv U=>?_;refine bk λI a w U=>?_;refine U.o (ll (lo:=i) di bL .tt .tt rfl om om) λU=>?_;refine U.m λU=>?_;refine U.Af 1 di bL .tt .tt rfl bn (by simp only[List.length_singleton];omega) (by simp only[List.length_singleton,List.length_append,List.length_map,List.length_replicate,hA];omega) rfl λU=>?_;refine zt ?_;refine U.dt 8 ?_;simp only[TD];refine eb ?_;refine .o (ll (lo:=i+1) di bL .tt .tt om om om) ?_;refine cG ?_;refine .o (ll (lo:=i) di bL .tt .tt rfl om om) ?_;refine .nil ?_;intro I a w U;refine U.Ag (xs:=(l.drop i).flatten) 1 0 di bL .tt .tt rfl rfl (by rw[List.append_assoc,yc _ (by simp only[List.length_map,hA];omega)];exact lJ _ (List.length_map _)) (by rw[hB,Nat.min_eq_left om]) (by rw[my (by simp only[List.length_map,List.length_append,List.length_replicate,iu,hA];omega)];simp only[List.length_append,List.length_map,List.length_replicate,hA,hB];omega) rfl λU=>?_;rw[Jy (by simp only[List.length_map,hA];omega) (by simp only[List.length_map,iu];omega) (by simp only[List.length_map,List.length_replicate,iu,hB];omega)] at U;have U:=U.tF (l:=l.take i++x::l.drop i) (cap:=yq) 1 rfl (by simp only[List.length_append,List.length_map,List.length_drop,List.length_replicate,hA,hB,iu];omega) oa om om om (by rw[sq,hlen];exact lJ _ (by simp only[List.length_append,List.length_map,hA,hB,iu];omega));rw[show i+(l.length+1-i)=(l.take i++x::l.drop i).length by omega] at U;obtain⟨I,U⟩:=U.fr 1 9;have U:=U.drop 0;refine aF λI a w U=>?_;exact U.vb rfl (.cons (by first|exact .t rfl|exact .nil rfl) .nil) rfl rfl
 refine zt ?_;have aW:l≠[]:=by intro e;rw[e] at hi ah;simp at hi ah;omega
 obtain⟨b,pw,he,ml,js,n7,U⟩:=U.u9 0 rfl aW;simp only[Value.slice.injEq] at he;obtain⟨rfl,_,rfl⟩:=he;have hA:(l.take i).flatten.length=i*7:=by rw[iz λr hr=>fi r (List.mem_of_mem_take hr),List.length_take,Nat.min_eq_left hi]
 have hB:(l.drop i).flatten.length=(l.length-i)*7:=by rw[iz λr hr=>fi r (List.mem_of_mem_drop hr),List.length_drop]
 rw[show l.flatten=(l.take i).flatten++(l.drop i).flatten by rw[<-List.flatten_append,List.take_append_drop],List.map_append] at U;have iu:([x]:List (List AV)).flatten.length=7:=by simpa using hx
 have hlen:(l.take i++x::l.drop i).length=l.length+1:=by simp;omega
 have oa:∀r∈l.take i++x::l.drop i,r.length=7:=λr hr=>(List.mem_append.1 hr).elim (λh=>fi r (List.mem_of_mem_take h)) λh=>(List.mem_cons.1 h).elim (λe=>e▸hx) λh=>fi r (List.mem_of_mem_drop h);have sq:(l.take i++x::l.drop i).flatten.map some=(l.take i).flatten.map some++([x]:List (List AV)).flatten.map some++(l.drop i).flatten.map some:=by simp
 refine bx λI a w U=>?_;refine U.o (tH (hi:=l.length+1) di bL .tt .tt om om om) λU=>?_;refine dZ λI a w U=>?_;refine U.o (ll (lo:=i+1) di bL .tt .tt om om om) λU=>?_;refine U.overlaps (tR:=4) 0 func280 rfl aO aO aO di bL aP .tt bn .tt rfl rfl λU=>?_;refine aB λI a w U=>?_;refine U.cd (λaK=>?_) λaK=>?_
 .refine wp_seq ?_;refine U.dt 8 ?_;simp only[TD];refine eb ?_;refine .o (ll (lo:=i+1) di bL .tt .tt om om om) ?_;refine cG ?_;refine .o (ll (lo:=i) di bL .tt .tt rfl om om) ?_;refine .nil ?_;intro I a w U;refine U.Ag (xs:=(l.drop i).flatten) 0 0 di bL .tt .tt rfl rfl (by rw[List.append_assoc,yc _ (by simp only[List.length_map,hA];omega)];exact lJ _ (List.length_map _)) (by rw[hB];congr 1;omega) (by simp only[List.length_append,List.length_map,List.length_replicate,hA,hB];omega) rfl λU=>?_;refine aG λI a w U=>?_;refine U.o (ll (lo:=i) di bL .tt .tt rfl om om) λU=>?_;refine U.m λU=>?_;refine U.Af 0 di bL .tt .tt rfl bn (by simp only[List.length_singleton];omega) (by rw[my (by simp only[List.length_map,List.length_append,List.length_replicate,hA,hB];omega)];simp only[List.length_singleton,List.length_append,List.length_map,List.length_replicate,hA,hB];omega) rfl λU=>?_;rw[Jw (by simp only[List.length_map,hA];omega) (by simp only[List.length_map,iu];omega) (by simp only[List.length_map,List.length_replicate,iu];omega)] at U;have U:=U.tF (l:=l.take i++x::l.drop i) (cap:=cap) 0 rfl (by simp only[List.length_append,List.length_map,List.length_drop,List.length_replicate,hA,hB,iu];omega) oa om om om (by rw[sq,hlen];exact lJ _ (by simp only[List.length_append,List.length_map,hA,hB,iu];omega));rw[show l.length+1=(l.take i++x::l.drop i).length by omega] at U;obtain⟨I,U⟩:=U.fr 0 0;have U:=U.drop 0;refine aF λI a w U=>?_;exact U.vb rfl (.cons (by first|exact .t rfl|exact .nil rfl) .nil) rfl rfl
 exfalso;simp at aK;skip
def ob {l:List aA} (h:ct l=true):∀v∈l,v.aQ.length<=6:=λv hv=>iV (iW (fw h v hv)).2.2
def iP {l:List aw} (h:gz l=true):l.length<=80:=by
 unfold gz at h;rw[Bool.and_eq_true,decide_eq_true_eq] at h;exact h.1
def RM (l:List aA) (v:aA) (h:l.length<=1048575) (hd:∀u∈l,u.aQ.length<=1048576) (hv:v.aQ.length<=1048576):
 Fn prog 102 [bU l,v.av] (bU (qC l v)):=by
 refine Fn.go 46 func102 ntmps102 (λW I a U=>?_);refine aF λI a w U=>?_;refine U.l0 λb8 I a w U=>?_;refine aR λI a w U=>?_;refine St.lo (σ:=Nat×Bool×List aA×Value) (run 3 5 (run 29 9 [])) ⟨λ⟨k,done,out,u⟩=>[(7,AV.int k),(6,AV.bool done),(5,AV.val u)],λ⟨k,done,out,u⟩=>[Own.row u 54 7 (out.map aA.cells)],λ⟨k,done,out,u⟩=>n8 l v k done out⟩ (λ⟨k,done,out,u⟩=>l.length-k) (0,false,[],.slice (some ⟨b8,0,none⟩) 0 0) U ?aI ?bF;case aI=>exact n8.zero l v
 rintro⟨k,done,out,u⟩ I a w ao U;have hp:n8 l v k done out:=ao;have hk:=hp.hk;have lF:=hp.len;have tD:done.toNat<=1:=by cases done<;>simp
 dsimp only at U;refine aX λI a w U=>?_;refine cz (λae=>?_) λae=>?_
 .refine zt ?_;refine U.dk ?_;refine ny ?_;refine .q .T (.cl (RD ..)) ?_;refine bG ?_;refine .nil ?_;intro I a w U;refine bm ?_;refine cz (λah=>?_) λah=>?_
  .refine aG λI a w U=>?_;refine U.o (.c1 (qB v hv)) λU=>?_;refine U.o (.li [v.cells] mB (.u .nil)) λU=>?_;refine U.ap 0 λAw a w U=>?_;rw[cJ] at U;refine g9 λI a w U=>?_;refine U.o (.c1 (qB (ab l k) (hd _ (bh ae)))) λU=>?_;refine U.o (.li [(ab l k).cells] mB (.u .nil)) λU=>?_;refine U.ap 0 λCK a w U=>?_;rw[cJ] at U;refine aX λI a w U=>?_;exact U.ag (k+1,true,(out++[v])++[ab l k],CK) (by obtain⟨h1,h2⟩:=ah;subst h1;exact hp.before ae h2)
  refine bY λI a w U=>?_;refine U.o (.c1 (qB (ab l k) (hd _ (bh ae)))) λU=>?_;refine U.o (.li [(ab l k).cells] mB (.u .nil)) λU=>?_;refine U.ap 0 λCK a w U=>?_;rw[cJ] at U;refine aX λI a w U=>?_;exact U.ag (k+1,done,out++[ab l k],CK) (hp.step ae (by simpa using ah))
 refine zt ?_;refine aF λI a w U=>?_;refine cz (λaq=>?_) λaq=>?_
 .refine aG λI a w U=>?_;refine U.o (.c1 (qB v hv)) λU=>?_;refine U.o (.li [v.cells] mB (.u .nil)) λU=>?_;refine U.ap 0 λwX a w U=>?_;rw[cJ] at U;refine aR λI a w U=>?_;obtain⟨I,U⟩:=U.fr 0 4;refine U.rt ?_;exact congrArg (AV.rows 7) (by subst aq;exact hp.vq om▸rfl)
 refine aF λI a w U=>?_;obtain⟨I,U⟩:=U.fr 0 4;refine U.rt ?_;exact congrArg (AV.rows 7) (by subst aq;rw[hp.vp om])
def Kf {v:aA} (h:dN v=true):bT v.aQ=true:=by
 simp only[dN,Bool.and_eq_true] at h;exact h.1.2
def yr (l:List aA) (h:l.length<=1048576) (hd:∀y∈l,y.aQ.length<=1048576):
 Fn prog 245 [bU l] (bU l):=by
 refine Fn.go 21 func245 ntmps245 (λW I a U=>?_);have hle:=U.eE (t:=0) rfl;refine aB λI a w U=>?_;refine U.l0 λb5 I a w U=>?_;refine aF λI a w U=>?_;refine St.lo (σ:=Nat×Value) (run 2 3 (run 14 6 [])) ⟨λ⟨k,v⟩=>[(4,AV.int k),(3,AV.val v)],λ⟨k,v⟩=>[Own.row v 54 7 ((l.take k).map aA.cells)],λ⟨k,v⟩=>k<=l.length⟩ (λ⟨k,v⟩=>l.length-k) (0,.slice (some ⟨b5,0,none⟩) 0 0) U ?aI ?bF;case aI=>exact Nat.zero_le _
 rintro⟨k,v⟩ I a w ao U;have hk:k<=l.length:=ao;dsimp only at U;refine aX λI a w U=>?_;refine cz (λae=>?_) λae=>?_
 .refine bY λI a w U=>?_;refine U.o (.c1 (qB (ab l k) (hd _ (bh ae)))) λU=>?_;refine U.o (.li [(ab l k).cells] mB (.u .nil)) λU=>?_;refine U.ap 0 λss a w U=>?_;rw[cJ,<-fe ae] at U;refine aX λI a w U=>?_;exact U.ag (k+1,ss) (ae)
 refine zt ?_;refine aF λI a w U=>?_;obtain⟨I,U⟩:=U.fr 0 2;refine U.rt ?_;exact congrArg (AV.rows 7) (by rw[List.take_of_length_le om])
def oI {α:Type} [Inhabited α] {p:α->Bool} {l:List α} {k:Nat} (h:k<l.length) (hp:p (ab l k)=true):(l.take (k+1)).filter p=(l.take k).filter p++[ab l k]:=by
 rw[fe h,List.filter_append,List.filter_cons,hp];rfl
def oJ {α:Type} [Inhabited α] {p:α->Bool} {l:List α} {k:Nat} (h:k<l.length) (hp:p (ab l k)=false):(l.take (k+1)).filter p=(l.take k).filter p:=by
 rw[fe h,List.filter_append,List.filter_cons,hp];simp
def tX {α:Type} (p:α->Bool) (l:List α) (k:Nat):((l.take k).filter p).length<=l.length:=by
 have h1:=List.length_filter_le p (l.take k);have h2:(l.take k).length<=l.length:=by simp;omega
 omega
def RN {l:List aA} (v:aA) (hc:ct l=true):(!dN v||(lq l ⟨v.key,v.ar⟩).isSome||decide (80<=(l.length:Int)))=!iO l v:=by
 rw[Au hc];have e:decide (80<=(l.length:Int))=!decide (l.length<80):=by rw[Bool.eq_iff_iff];simp;omega
 have e2:decide (0<=placeOf l ⟨v.key,v.ar⟩)=!decide (placeOf l v.aU<0):=by
  show decide (0<=placeOf l v.aU)=_;rw[Bool.eq_iff_iff];simp
 unfold iO;rw[e,e2];simp
def wY {l:List aA} {v:aA} (h:iO l v=true):dN v=true/\placeOf l v.aU<0/\l.length<80:=by
 unfold iO at h;simp only[Bool.and_eq_true,decide_eq_true_eq] at h;exact⟨h.1.1,h.1.2,h.2⟩
def CL (e d:aw):([e.key,e.ar.time,e.ar.site]==[d.key,d.ar.time,d.ar.site])=decide (e=d):=by
 obtain⟨k,⟨t,s⟩⟩:=d;obtain⟨k',⟨t',s'⟩⟩:=e;rw[Bool.eq_iff_iff];simp
def CM {s:Server} (h:iB s=true):s.aD.length=3/\ct s.an=true/\ct s.waits=true/\gz s.aE=true/\gz s.ba=true/\cM s.site=true:=by
 simp only[iB,Bool.and_eq_true] at h;exact CI h.1.1.1.1
def FN (l:List aA) (v:aA) (hc:ct l=true):
 Fn prog 295 [bU l,v.av] (AV.dG [bU (if iO l v then fJ l v else l),AV.bool (iO l v)]):=by
 refine Fn.go 37 func295 ntmps295 (λW I a U=>?_);have hle:=U.eE (t:=0) rfl;have CN:=ga hc;have iv:=ob hc;refine bx λI a w U=>?_;refine U.o (.cl (wS ..)) λU=>?_;refine aB λI a w U=>?_;refine U.cd (λae=>?_) λae=>?_
 .exfalso;rw[hc] at ae;cases ae;skip
 refine bY λI a w U=>?_;refine U.o (.cl (vr ..)) λU=>?_;refine bk λI a w U=>?_;refine U.alloc rfl bL ee λb6 I a w U=>?_;refine U.sb 0 λU=>?_;obtain⟨I,U⟩:=U.fb 0 6;refine aG λI a w U=>?_;refine U.o (.c1 (J4 ..)) λU=>?_;refine oE λI a w U=>?_;refine U.cd (λah=>?_) λah=>?_
 .rw[RN v hc] at ah;replace ah:=nt ah;refine bD λI a w U=>?_;refine U.o (bO (yr l om (λu hu=>by have:=iv u hu;omega)) (ax .r aH)) λU=>?_;refine c8 ?_;exact(by rw[ah];rfl)
 rw[RN v hc] at ah;replace ah:=nf ah;refine aG λI a w U=>?_;refine U.o (bO (RM l v om (λu hu=>by have:=iv u hu;omega) (by have:=iV (Kf (wY ah).1);omega)) (ax .r (ax (.t rfl) aH))) λU=>?_;refine c8 ?_;exact(by rw[ah,<-Kd (pN (wY ah).2.1)];rfl)
def CO (l:List aw) (d:aw):
 Fn prog 319 [bE l,d.av] (AV.int (fy l d)):=by
 refine Fn.go 19 func319 ntmps319 (λW I a U=>?_);have hle:=U.eE (t:=0) rfl;refine aR λI a w U=>?_;refine St.lo (σ:=Nat) (run 15 4 []) ⟨λk=>[(5,AV.int k)],λk=>[],λk=>k<=l.length/\∀i,i<k->(λe=>decide (e=d)) (ab l i)=false⟩ (λk=>l.length-k) 0 U ?aI ?bF;case aI=>exact⟨Nat.zero_le _,λi hi=>by omega⟩
 rintro k I a w ao U;obtain⟨hk,aM⟩:=ao;refine aX λI a w U=>?_;refine cz (λae=>?_) λae=>?_
 .refine zt ?_;refine U.dk ?_;refine fZ ?_;refine .o (nr [_,_,_] [_,_,_] wQ rfl rfl .tt .tt)<|.nil ?_;intro I a w U;refine bm ?_;refine U.cd (λah=>?_) λah=>?_
  .rw[CL] at ah;refine c8 ?_;exact gx (nB ae aM ah).symm
  rw[CL] at ah;refine aR λI a w U=>?_;exact U.ag (k+1) (⟨ae,λi h1=>by rcases Nat.lt_succ_iff_lt_or_eq.1 h1 with h|h;exact aM i h;rw[h];exact ah⟩)
 refine zt ?_;refine bf ?_;exact gx (mS om aM).symm
def RO (s:Server) (d:aw) (hc:ct s.an=true):
 Fn prog 318 [s.av,d.av] (AV.bool (eG s d)):=by
 refine Fn.go 25 func318 ntmps318 (λW I a U=>?_);refine wJ λI a w U=>?_;refine U.o (.cl (vr ..)) λU=>?_;refine bk λI a w U=>?_;refine U.alloc rfl bL ee λb5 I a w U=>?_;refine U.sb 0 λU=>?_;obtain⟨I,U⟩:=U.fb 0 5;refine dZ λI a w U=>?_;refine U.q .F (.cl (CO ..)) λU=>?_;refine tO ?_;exact bB (by unfold eG;rw[Au hc])
def acb (s:Server) (v:aA) (hc:ct s.an=true):
 Fn prog 357 [s.av,v.av] (AV.bool (yo s v)):=by
 refine Fn.go 21 func357 ntmps357 (λW I a U=>?_);have lens:v.aQ.length<=9223372036854775807:=U.ln 1 6;refine aX λI a w U=>?_;refine St.lo (σ:=Nat) (run 17 4 []) ⟨λk=>[(5,AV.int k)],λk=>[],λk=>k<=v.aQ.length/\∀i,i<k->(λi=>eG s (ab v.aQ i)) i=true⟩ (λk=>v.aQ.length-k) 0 U ?aI ?bF;case aI=>exact⟨Nat.zero_le _,λi hi=>by omega⟩
 rintro k I a w ao U;obtain⟨mU,aM⟩:=ao;refine cF λI a w U=>?_;refine cz (λae=>?_) λae=>?_
 .refine zt ?_;refine U.dk ?_;refine iA ?_;refine .o (.c2 (RO _ _ hc)) ?_;refine bG ?_;refine .nil ?_;intro I a w U;refine bm ?_;refine cz (λah=>?_) λah=>?_
  .refine bf ?_;exact bB (eI (f:=λi=>eG s (ab v.aQ i)) ae ah).symm
  refine aR λI a w U=>?_;exact U.ag (k+1) (⟨by omega,eY aM ah⟩)
 refine zt ?_;refine bf ?_;exact bB (eX aM om).symm
def RP (s:Server) (d:aw):
 Fn prog 338 [s.av,d.av] (AV.bool (iq s d)):=by
 refine Fn.go 22 func338 ntmps338 (λW I a U=>?_);have lens:s.aD.length<=9223372036854775807/\s.an.length<=9223372036854775807/\s.waits.length<=9223372036854775807/\s.aE.length<=9223372036854775807/\s.ba.length<=9223372036854775807:=⟨U.ln 0 2,U.ln 0 3,U.ln 0 4,U.ln 0 5,U.ln 0 6⟩;refine aX λI a w U=>?_;refine St.lo (σ:=Nat) (run 18 4 []) ⟨λk=>[(5,AV.int k)],λk=>[],λk=>k<=s.waits.length/\∀i,i<k->(λi=>!sk d (ab s.waits i)) i=true⟩ (λk=>s.waits.length-k) 0 U ?aI ?bF;case aI=>exact⟨Nat.zero_le _,λi hi=>by omega⟩
 rintro k I a w ao U;obtain⟨mU,aM⟩:=ao;refine cF λI a w U=>?_;refine cz (λae=>?_) λae=>?_
 .refine zt ?_;refine U.dk ?_;refine mA ?_;refine .o (.cl (CO ..)) ?_;refine bG ?_;refine .nil ?_;intro I a w U;refine bm ?_;refine cz (λah=>?_) λah=>?_
  .refine bf ?_;exact bB (by unfold iq;rw[eI (f:=λi=>!sk d (ab s.waits i)) ae (by unfold sk;simp;omega)];rfl)
  refine aR λI a w U=>?_;exact U.ag (k+1) (⟨by omega,eY aM (by unfold sk;simp;omega)⟩)
 refine zt ?_;refine bf ?_;exact bB (by unfold iq;rw[eX aM om];rfl)
def yt {α:Type} [Inhabited α] {R:α->α->Prop} {l:List α} (h:l.Pairwise R) {i j:Nat} (j5:i<j) (hj:j<l.length):R (ab l i) (ab l j):=by
 rw[List.pairwise_iff_getElem] at h;have:=h i j om hj j5;have e:∀k (hk:k<l.length),l[k]=ab l k:=λk hk=>by simp[ab,hk]
 rwa[e i om,e j hj] at this
def FO {α:Type} [Inhabited α] {aN:α->Bool} {less:α->α->Bool} (tr:∀{a b d},less a b=true->less b d=true->less a d=true) {l:List α}:
 cI l.length (fO aN less l)=true↔(∀x∈l,aN x=true)/\l.Pairwise λa b=>less a b=true:=by
 rw[gF];constructor
 .intro h;refine⟨λx hx=>?_,RI (R:=λa b=>less a b=true) (λh1 h2=>tr h1 h2) λi h0 hi=>?_⟩
  .obtain⟨k,hk,rfl⟩:=fS hx;have:=h k hk;unfold fO at this;rw[Bool.and_eq_true] at this;exact this.1
  have:=h i hi;unfold fO at this;rw[Bool.and_eq_true,Bool.or_eq_true,decide_eq_true_eq] at this;rcases this.2 with h3|h3
  .omega
  exact h3
 rintro⟨h1,h2⟩ i hi;unfold fO;rw[Bool.and_eq_true,Bool.or_eq_true,decide_eq_true_eq];refine⟨h1 _ (bh hi),?_⟩;rcases Nat.eq_zero_or_pos i with h|h
 .exact Or.inl h
 exact Or.inr (yt h2 om hi)
def RQ {a b d:aA} (h:fP a b=true) (h':fP b d=true):fP a d=true:=Av h h'
def vw {l:List aA}:ct l=true↔l.length<=80/\(∀v∈l,dN v=true)/\VS l:=by
 unfold ct;rw[Bool.and_eq_true,decide_eq_true_eq,FO (less:=fP) (λh1 h2=>RQ h1 h2)];rfl
def FP {l:List aA} {v:aA} (h:ct l=true) (hv:dN v=true) (hp:placeOf l v.aU<0) (hl:l.length<80):ct (fJ l v)=true:=by
 obtain⟨h1,h2,h3⟩:=vw.1 h;refine vw.2 ⟨by rw[RH];omega,λx hx=>?_,Ke h3 (pN hp)⟩;rcases hC.1 hx with rfl|hx
 .exact hv
 exact h2 x hx
def yu {l m:List aA} (h:ct l=true) (U:m.Sublist l):ct m=true:=by
 obtain⟨h1,h2,h3⟩:=vw.1 h;exact vw.2 ⟨Nat.le_trans U.length_le h1,λx hx=>h2 x (U.subset hx),h3.sublist U⟩
def Ax {α:Type} (l:List α) (n:Nat):(l.take n++l.drop (n+1)).Sublist l:=by
 have e:l=l.take n++l.drop n:=(List.take_append_drop n l).symm;conv=>rhs;rw[e]
 refine List.Sublist.append (List.Sublist.refl _) ?_;rw[<-List.drop_drop];exact List.drop_sublist 1 _
def Kg {s:Server} (h:iB s=true):fK s:=by
 obtain⟨h1,h2,h3,h4,h5,h6⟩:=CM h;refine⟨h1,h2,h3,λv hv=>?_,iP h5⟩;simp only[iB,Bool.and_eq_true] at h;obtain⟨k,hk,rfl⟩:=fS hv;have:=(gF.1 h.1.2) k hk;simp only[tW,vo,Bool.and_eq_true,decide_eq_true_eq] at this;exact this.2
def Kh {l:List aA} (h:VS l) {i j:Nat} (hi:i<l.length) (hj:j<l.length) (aW:i≠j):(ab l i).aU≠(ab l j).aU:=λe=>by
 rcases Nat.lt_or_gt_of_ne aW with bz|bz
 .have:=yt h bz hj;unfold fP at this;rw[e,wV] at this;cases this
 have:=yt h bz hi;unfold fP at this;rw[e,wV] at this;cases this
def RR {α:Type} [Inhabited α] {l:List α} {n:Nat} {x:α} (h:x∈l.take n++l.drop (n+1)):∃k,k<l.length/\k≠n/\ab l k=x:=by
 rcases List.mem_append.1 h with h|h
 .obtain⟨k,hk,rfl⟩:=List.getElem_of_mem h;have fV:k<n/\k<l.length:=by simp at hk;omega
  exact⟨k,fV.2,by omega,by simp[ab,fV.2]⟩
 obtain⟨k,hk,rfl⟩:=List.getElem_of_mem h;have fV:n+1+k<l.length:=by simp at hk;omega
 exact⟨n+1+k,fV,by omega,by simp[ab,fV]⟩
def fK.yv {s:Server} (h:fK s) (hp:0<=dI s):fK (mT s (dI s).toNat):=by
 obtain⟨hl,qD,_⟩:=wW hp;have hm:=bh hl;have hws:=(vw.1 h.waits).2.2;refine⟨h.aD,FP h.an (fw h.waits _ hm) (h.apart _ hm) qD,yu h.waits (Ax _ _),λv hv=>yn λx hx=>?_,h.ba⟩;obtain⟨k,hk,aW,rfl⟩:=RR hv;rcases hC.1 hx with rfl|hx
 .exactλe=>Kh hws hk hl aW e.symm
 exact pN (h.apart _ (bh hk)) x hx
def ace {s:Server} {k:Nat} (qD:s.an.length<80) (hk:k<s.waits.length) (h:∀i,i<k->iC s (ab s.waits i)=false) (hp:iC s (ab s.waits k)=true):dI s=k:=by
 unfold dI;rw[if_pos qD];exact nB hk h hp
def Ki {s:Server} (h:s.an.length<80->∀i,i<s.waits.length->iC s (ab s.waits i)=false):dI s<0:=by
 unfold dI;split
 .rename_i qD;rw[mS (k:=s.waits.length) (Nat.le_refl _) (h qD)];omega
 omega
def su {α:Type} {p:α->Bool} {l:List α} {x:α} (h:x∈l.filter p):x∈l:=(List.mem_filter.1 h).1
def fK.drop {s:Server} (h:fK s) (slot:Int):fK (eh s slot):=
 ⟨h.aD,yu h.an (List.filter_sublist),yu h.waits (List.filter_sublist),λv hv=>yn λx hx=>pN (h.apart v (su hv)) x (su hx),h.ba⟩
def fK.acf {s:Server} (h:fK s) {x:List de} (hx:x.length=3):fK {s with aD:=x}:=⟨hx,h.an,h.waits,h.apart,h.ba⟩
def fK.gone {s:Server} (h:fK s) (m:az):fK (lr s m):=(h.drop m.slot).acf (by show(s.aD.set _ _).length=3;rw[List.length_set];exact h.aD)
def CP {α:Type} [Inhabited α] {p:α->Bool} {l:List α}:hasB p l=true↔∃x∈l,p x=true:=⟨Kc,λ⟨_,hx,hp⟩=>FI hx hp⟩
def FQ {α:Type} [Inhabited α] {p:α->Bool} {l:List α}:hasB p l=false↔∀x∈l,p x=false:=by
 rw[<-Bool.not_eq_true,CP];exact⟨λh x hx=>by cases hp:p x;rfl;exact absurd ⟨x,hx,hp⟩ h,λh ⟨x,hx,hp⟩=>by rw[h x hx] at hp;cases hp⟩
def tY {α:Type} [Inhabited α] {p:α->Bool} {l:List α}:(cI l.length λi=>p (ab l i))=true↔∀x∈l,p x=true:=by
 rw[gF];exact⟨λh x hx=>by obtain⟨k,hk,rfl⟩:=fS hx;exact h k hk,λh i hi=>h _ (bh hi)⟩
def nC {l:List aA} {d:aw}:0<=placeOf l d↔∃x∈l,x.aU=d:=by
 constructor
 .intro h;obtain⟨h1,h2⟩:=l7 h;exact⟨_,bh h1,h2⟩
 rintro⟨x,hx,he⟩;apply Int.not_lt.1;intro hn;exact pN hn x hx he
def RS {l:List aA} {d:aw}:placeOf l d<0↔∀x∈l,x.aU≠d:=⟨pN,yn⟩
def Kj {l:List aA} {ds:List aw}:tU l ds=true↔∀d∈ds,∃x∈l,x.aU=d:=by
 unfold tU;rw[Bool.not_eq_true',FQ];refine forall_congr' λd=>forall_congr' λhd=>?_;rw[<-nC];unfold missing;simp
structure bJ (s:Server):Prop where
 site:cM s.site=true
 aD:s.aD.length=3
 an:ct s.an=true
 waits:ct s.waits=true
 aE:gz s.aE=true
 ba:gz s.ba=true
 up:s.up=false->s.ba=[]
 aN:∀x∈s.aD,sh x=true
 here:∀v∈s.an,cP s v.key≠0
 oK:∀v∈s.waits,cP s v.key≠0
 oL:∀v∈s.waits,bM v.ar.site≠bM s.site
 apart:∀v∈s.waits,∀x∈s.an,x.aU≠v.aU
 lN:∀d∈s.aE,∃x∈s.an,x.aU=d
def jX {s:Server}:iB s=true↔bJ s:=by
 have e1:(cI s.aD.length (tV s))=true↔∀x∈s.aD,sh x=true:=by
  have e:tV s=λi=>sh (ab s.aD i):=by funext i;unfold tV;rfl
  rw[e];exact tY
 have e2:(cI s.an.length (vn s))=true↔∀x∈s.an,(cP s x.key !=0)=true:=by
  have e:vn s=λi=>(λv:aA=>cP s v.key !=0) (ab s.an i):=by funext i;unfold vn;rfl
  rw[e];exact tY (p:=λv:aA=>cP s v.key !=0)
 have e3:(cI s.waits.length (tW s))=true↔∀x∈s.waits,vo s x=true:=by
  have e:tW s=λi=>vo s (ab s.waits i):=by funext i;unfold tW;rfl
  rw[e];exact tY
 have eu:(!(!s.up&&decide (0<s.ba.length)))=true↔(s.up=false->s.ba=[]):=by
  cases s.up<;>simp
 unfold iB vm;simp only[Bool.and_eq_true,decide_eq_true_eq];rw[e1,e2,e3,Kj,eu];constructor
 .rintro⟨⟨⟨⟨⟨⟨⟨⟨⟨⟨a1,a2⟩,a3⟩,a4⟩,a5⟩,a6⟩,a7⟩,a8⟩,a9⟩,yw⟩,CQ⟩;refine⟨a1,a2,a3,a4,a5,a6,a7,a8,λv hv=>by simpa using a9 v hv,λv hv=>?_,λv hv=>?_,λv hv=>?_,CQ⟩<;>
   have:=yw v hv<;>simp only[vo,Bool.and_eq_true,decide_eq_true_eq,RS,bne_iff_ne] at this
  .exact this.1.1
  .exact this.1.2
  exact this.2
 intro h;refine⟨⟨⟨⟨⟨⟨⟨⟨⟨⟨h.site,h.aD⟩,h.an⟩,h.waits⟩,h.aE⟩,h.ba⟩,h.up⟩,h.aN⟩,λv hv=>by simpa using h.here v hv⟩,λv hv=>?_⟩,h.lN⟩;simp only[vo,Bool.and_eq_true,decide_eq_true_eq,RS,bne_iff_ne];exact⟨⟨h.oK v hv,h.oL v hv⟩,h.apart v hv⟩
def bJ.ok {s:Server} (h:bJ s):fK s:=Kg (jX.2 h)
def RT {l:List aA} {v:aA} {d:aw} (h:∃x∈l,x.aU=d):∃x∈fJ l v,x.aU=d:=let⟨x,hx,e⟩:=h;⟨x,hC.2 (.inr hx),e⟩
def yx {α:Type} {l:List α} {n:Nat} {x:α} (h:x∈l.take n++l.drop (n+1)):x∈l:=(Ax l n).subset h
def bJ.yv {s:Server} (h:bJ s) (hp:0<=dI s):bJ (mT s (dI s).toNat):=by
 obtain⟨hl,qD,hg⟩:=wW hp;have hm:=bh hl;have ao:=h.ok.yv hp;refine⟨h.site,h.aD,ao.an,ao.waits,h.aE,h.ba,h.up,h.aN,λv hv=>?_,λv hv=>h.oK v (yx hv),λv hv=>h.oL v (yx hv),λv hv=>pN (ao.apart v hv),λd hd=>RT (h.lN d hd)⟩;rcases hC.1 hv with rfl|hv
 .exact h.oK _ hm
 exact h.here v hv
def acg (l:List aw) (d:aw):
 Fn prog 327 [bE l,d.av] (AV.int (fy l d)):=by
 refine Fn.go 19 func327 ntmps327 (λW I a U=>?_);have hle:=U.eE (t:=0) rfl;refine cF λI a w U=>?_;refine St.lo (σ:=Nat) (run 2 4 (run 11 8 [])) ⟨λk=>[(8,AV.int k)],λk=>[],λk=>k<=l.length/\∀i,i<k->(λe=>decide (e=d)) (ab l i)=false⟩ (λk=>l.length-k) 0 U ?aI ?bF;case aI=>exact⟨Nat.zero_le _,λi hi=>by omega⟩
 rintro k I a w ao U;obtain⟨hk,aM⟩:=ao;refine aB λI a w U=>?_;refine cz (λae=>?_) λae=>?_
 .refine aF λI a w U=>?_;refine U.dk ?_;refine fZ ?_;refine .o (nr [_,_,_] [_,_,_] wQ rfl rfl .tt .tt)<|.nil ?_;intro I a w U;refine bm ?_;refine U.cd (λah=>?_) λah=>?_
  .rw[CL] at ah;rw[decide_eq_true_eq] at ah;refine c8 ?_;exact gx (nB ae aM (decide_eq_true ah.symm)).symm
  rw[CL] at ah;rw[decide_eq_false_iff_not] at ah;refine aF λI a w U=>?_;exact U.ag (k+1) (⟨ae,λi h1=>by rcases Nat.lt_succ_iff_lt_or_eq.1 h1 with h|h;exact aM i h;rw[h];exact decide_eq_false λe=>ah e.symm⟩)
 refine zt ?_;refine bf ?_;exact gx (mS om aM).symm
def CR (l:List aw) (d:aw):
 Fn prog 293 [bE l,d.av] (AV.bool (decide (0<=fy l d))):=by
 refine Fn.go 9 func293 ntmps293 (λW I a U=>?_);refine bx λI a w U=>?_;refine U.o (.cl (acg ..)) λU=>?_;refine c8 ?_;rfl
def RU (s:Server) (d:aw):
 Fn prog 292 [s.av,d.av] (AV.bool (eG s d)):=by
 refine Fn.go 16 func292 ntmps292 (λW I a U=>?_);refine dZ λI a w U=>?_;refine U.o (.cl (oH ..)) λU=>?_;refine bY λI a w U=>?_;refine U.q .F (.cl (CR ..)) λU=>?_;refine c8 ?_;rfl
def RV (v:aA) (d:aw):
 Fn prog 360 [v.av,AV.ptr d.cells] (AV.bool (sk d v)):=by
 refine Fn.go 8 func360 ntmps360 (λW I a U=>?_);refine bY λI a w U=>?_;refine U.o (.cl (CR ..)) λU=>?_;refine bf ?_;rfl
def RW (s:Server) (v:aA):(((ab s.aD (cV v.key).toNat).cm !=1)||!yo s v)=!iC s v:=by
 unfold iC cP;simp only[bne];cases((ab s.aD (cV v.key).toNat).cm==1)<;>simp
def ach {s u u2:Server} {g2:Bool} {i:Nat} (hu:fK u) (fL:ir u=ir s) (CS:u.ba=s.ba) (hf:g2=false->u=u2/\i<=u.waits.length/\(u.an.length<80->∀j,j<i->iC u (ab u.waits j)=false))
 (ht:g2=true->0<=dI u/\u2=mT u (dI u).toNat) (hb:u2.waits.length<=i\/g2=true):fK u2/\ir u2=ir s/\(g2=false->dI u2<0)/\u2.ba=s.ba:=by
 cases g2 with
 |true=>
  obtain⟨h1,rfl⟩:=ht rfl
  exact⟨hu.yv h1,by rw[<-RJ h1,fL],(λe=>by cases e),CS⟩
 |false=>
  obtain⟨rfl,h1,h2⟩:=hf rfl
  have h3:u.waits.length<=i:=hb.resolve_right bn
  exact⟨hu,fL,λ_=>Ki λqD j hj=>h2 qD j om,CS⟩
def aci {u u2:Server} {g2:Bool} {i:Nat} (hf:g2=false->u=u2/\i<=u.waits.length/\(u.an.length<80->∀j,j<i->iC u (ab u.waits j)=false))
 (ht:g2=true->0<=dI u/\u2=mT u (dI u).toNat):2*u2.waits.length+g2.toNat<2*u.waits.length+true.toNat:=by
 cases g2 with
 |true=>
  obtain⟨h1,rfl⟩:=ht rfl
  have:=(wW h1).1
  rw[FM this];simp;omega
 |false=>
  obtain⟨rfl,h1,h2⟩:=hf rfl
  simp
def acj {s:Server} (h:fK s) {i:Nat} (hi:i<s.waits.length) (hn:iO s.an (ab s.waits i)=false):80<=s.an.length:=by
 have h1:=fw h.waits _ (bh hi);have h2:=h.apart _ (bh hi);unfold iO at hn;rw[h1] at hn;simp only[Bool.true_and,Bool.and_eq_false_iff,decide_eq_false_iff_not] at hn;rcases hn with hn|hn
 .exact absurd h2 hn
 omega
def gB {α:Type} [Inhabited α] {f:α->List AV} {l:List α} {i:Nat} (h:i<l.length):(l.map f)[i]?=some (f (ab l i)):=by rw[List.getElem?_map,PZ h];rfl
def Kk {α:Type}:∀{l:List (List α)} {sz:Nat},(∀r∈l,r.length=sz)->∀{i:Nat},l.flatten.drop (i*sz)=(l.drop i).flatten
 |l,sz,h,0=>by simp
 |[],sz,h,i+1=>by simp
 |x::r,sz,h,i+1=>by
  have hx:x.length=sz:=h x bn;have ih:=Kk (l:=r) (sz:=sz) (λy hy=>h y (by simp[hy])) (i:=i);rw[List.flatten_cons,List.drop_succ_cons,<-ih,show(i+1)*sz=x.length+i*sz by rw[hx,Nat.succ_mul,Nat.add_comm],List.drop_append];simp
def FR {α:Type} [Inhabited α] {p:α->Bool} {l:List α} (h:0<=df p l):(df p l).toNat<l.length/\p (ab l (df p l).toNat)=true/\∀i,i<(df p l).toNat->p (ab l i)=false:=by
 unfold df at*;split at h
 .rename_i k hk;obtain⟨h1,h2,h3⟩:=List.findIdx?_eq_some_iff_getElem.1 hk;refine⟨by simpa using h1,by simpa[ab,h1] using h2,λi hi=>?_⟩;have r7:i<k:=by simpa using hi
  have lI:i<l.length:=by omega
  have:=h3 i r7;simpa[ab,lI] using this
 omega
def kp {α:Type} (p:α->Bool) (l:List α) (j:Nat):List α:=(l.take j).filter λd=>!p d
def jv {α:Type} (p:α->Bool) (l:List α) (j:Nat):List α:=kp p l j++l.drop (kp p l j).length
section
variable {α:Type} {p:α->Bool} {l:List α} {j:Nat}
def Kl:(kp p l j).length<=j:=by
 have h1:=List.length_filter_le (λd=>!p d) (l.take j);have h2:(l.take j).length<=j:=by simp;omega
 unfold kp;omega
def ack (h:j<=l.length):(jv p l j).length=l.length:=by
 have:=Kl (p:=p) (l:=l) (j:=j);unfold jv;simp;omega
def acm:kp p l l.length=l.filter λd=>!p d:=by unfold kp;rw[List.take_length]
variable [Inhabited α]
def FT (h:j<l.length) (hp:p (ab l j)=false):kp p l (j+1)=kp p l j++[ab l j]:=oI h (by rw[hp];rfl)
def CT (h:j<l.length) (hp:p (ab l j)=true):kp p l (j+1)=kp p l j:=oJ h (by rw[hp];rfl)
def acn (h:j<l.length):ab (jv p l j) j=ab l j:=by
 have:=Kl (p:=p) (l:=l) (j:=j);unfold jv ab;rw[List.getD_eq_getElem?_getD,List.getD_eq_getElem?_getD,List.getElem?_append_right this,List.getElem?_drop];congr 2;omega
def aco (h:j<l.length) (hp:p (ab l j)=false):(jv p l j).set (kp p l j).length (ab l j)=jv p l (j+1):=by
 have:=Kl (p:=p) (l:=l) (j:=j);have hi:(kp p l j).length<l.length:=by omega
 unfold jv;rw[FT h hp,List.set_append_right _ _ (Nat.le_refl _),Nat.sub_self];have e:l.drop (kp p l j).length=l[(kp p l j).length]::l.drop ((kp p l j).length+1):=List.drop_eq_getElem_cons hi;rw[e,List.set_cons_zero];simp
def acp (h:j<l.length) (hp:p (ab l j)=true):jv p l (j+1)=jv p l j:=by unfold jv;rw[CT h hp]
def Km (h:0<=df p l):kp p l ((df p l).toNat+1)=l.take (df p l).toNat:=by
 obtain⟨h1,h2,h3⟩:=FR h;rw[CT h1 h2];unfold kp;rw[List.filter_eq_self];intro x hx;obtain⟨i,hi,rfl⟩:=List.getElem_of_mem hx;have r7:i<(df p l).toNat/\i<l.length:=by simp at hi;omega
 have:=h3 i r7.1;simpa[ab,r7.2] using this
def RX (h:0<=df p l):jv p l ((df p l).toNat+1)=l:=by
 have h1:=(FR h).1;unfold jv;rw[Km h,List.length_take,Nat.min_eq_left om,List.take_append_drop]
def acq (h:df p l<0):(l.filter λd=>!p d)=l:=by
 rw[List.filter_eq_self];intro x hx;obtain⟨i,hi,rfl⟩:=List.getElem_of_mem hx;have:=CH h i hi;simpa[ab,hi] using this
end
def acr (v:Value) (l:List (List AV)) (i:Nat) (hi:i<l.length) (hl:l.length<=1048576) (fi:∀r∈l,r.length=7):
 dp prog 364 [AV.val v,AV.int i,AV.int ((i:Int)+1)] [Own.row v 54 7 l] (λ_:Value=>True) (λu=>[Own.row u 54 7 (l.take i++l.drop (i+1))]) AV.val:=by
 refine dp.intro 33 func364 rfl ntmps364 rfl aO (λW I a U=>?_);obtain⟨q,cap,rfl,nX⟩:=U.Cs 0 rfl;refine dZ λI a w U=>?_;refine U.o (Rd (lo:=i) (hi:=i+1) (mx:=l.length) di bL .tt .tt .tt .tt rfl om rfl om om om) λU=>?_;refine aR λI a w U=>?_;refine U.cd (λae=>?_) λae=>?_
 .exfalso;simp only[B] at ae;omega;skip
 refine aR λI a w U=>?_;have aW:l≠[]:=by intro e;rw[e] at hi;simp at hi
 obtain⟨b,pw,he,ml,js,n7,U⟩:=U.u9 0 rfl aW;simp only[Value.slice.injEq] at he;obtain⟨rfl,_,rfl⟩:=he;have hF:l.flatten.length=l.length*7:=iz fi;have hB:(l.drop (i+1)).flatten.length=(l.length-(i+1))*7:=by rw[iz λr hr=>fi r (List.mem_of_mem_drop hr),List.length_drop]
 have hlen:(l.take i++l.drop (i+1)).length=i+(l.length-(i+1)):=by simp;omega
 have oa:∀r∈(l.take i++l.drop (i+1)),r.length=7:=λr hr=>(List.mem_append.1 hr).elim (λh=>fi r (List.mem_of_mem_take h)) λh=>fi r (List.mem_of_mem_drop h);refine U.dt 6 ?_;simp only[TD];refine cG ?_;refine .o (tH (hi:=i) di bL .tt .tt rfl om om) ?_;refine cG ?_;refine .o (JV (lo:=i+1) di bL .tt .tt om om om) ?_;refine .nil ?_;intro I a w U;refine U.Rf (xs:=(l.drop (i+1)).flatten) 0 di bL .tt .tt rfl (by rw[List.drop_append_of_le_length (by simp only[List.length_map,hF];exact Nat.mul_le_mul_right _ om),<-List.map_drop,Kk fi];exact lJ _ (List.length_map _)) hB om (by simp only[List.length_append,List.length_map,List.length_replicate,hF,hB];omega) rfl λU=>?_;refine bY λI a w U=>?_;refine U.o (Re (lo:=i+(l.length-(i+1))) (hi:=l.length) di bL .tt .tt .tt rfl rfl om om) λU=>?_;refine U.JX 0 di bL rfl mB .tt om rfl (by rw[my]<;>simp only[List.length_append,List.length_map,List.length_replicate,hF,hB]<;>omega) λU=>?_;have U:=U.tF (l:=(l.take i++l.drop (i+1))) (cap:=cap) 0 rfl (by rw[my,my]<;>(try rw[my])<;>simp only[List.length_append,List.length_map,List.length_replicate,hF,hB]<;>omega) oa om om om (Ri fi hi);rw[<-hlen] at U;refine aF λI a w U=>?_;refine U.dx _ [0] rfl (.cons (.t rfl) .nil) trivial rfl rfl
def acs {p:aw->Bool} {l:List aw} {j:Nat} {R Y:List (Option AV)} (h:(jv p l j).length=l.length):(over (((jv p l j).map aw.cells).flatten.map some++R) ((kp p l j).length*3) Y).take (((kp p l j).map aw.cells).length*3)=((kp p l j).map aw.cells).flatten.map some:=by
 have hA:((kp p l j).map aw.cells).flatten.length=(kp p l j).length*3:=by
  rw[iz (sz:=3) λr hr=>by obtain⟨d,_,rfl⟩:=List.mem_map.1 hr;rfl,List.length_map]
 have e:((jv p l j).map aw.cells).flatten=((kp p l j).map aw.cells).flatten++((l.drop (kp p l j).length).map aw.cells).flatten:=by
  unfold jv;rw[List.map_append,List.flatten_append]
 rw[List.length_map,e,List.map_append,Rh (by simp only[List.length_append,List.length_map,hA];omega),List.append_assoc];exact List.take_left' (by rw[List.length_map,hA])
def acu (v:Value) (l:List aw) (p:aw->Bool) (fv:AV) (O:Own) (hl:l.length<=1048576) (hf:∀x,x∈l->CD prog fv [x.av] [O] (AV.bool (p x))):
 jV prog 282 [AV.val v,fv] [Own.row v 125 3 (l.map aw.cells),O] [Own.row v 125 3 (l.map aw.cells),O] (AV.int (df p l)):=by
 refine jV.intro 19 func282 rfl ntmps282 rfl aO (λW I a U=>?_);refine aG λI a w U=>?_;refine U.o (tv 0 dX .tt rfl) λU=>?_;refine aB λI a w U=>?_;refine St.lo (σ:=Nat) (run 2 4 (run 11 8 [])) ⟨λk=>[(8,AV.int k)],λk=>[Own.row v 125 3 (l.map aw.cells),O],λk=>k<=l.length/\∀i,i<k->p (ab l i)=false⟩ (λk=>l.length-k) 0 U ?aI ?bF;case aI=>exact⟨Nat.zero_le _,λi hi=>by omega⟩
 rintro k I a w ao U;obtain⟨hk,aM⟩:=ao;dsimp only at U;refine aB λI a w U=>?_;refine U.cd (λae=>?_) λae=>?_
 .simp only[B,List.length_map] at ae;refine bY λI a w U=>?_;obtain⟨b,cap,rfl⟩:=U.ku 0 rfl lf;refine U.o (jF dX cW .tt .tt (λ_=>by simp only[List.length_map];omega)) λU=>?_;refine U.o (tw 0 cW .tt rfl (λ_=>by exact gB ae) rfl) λU=>?_;refine U.Rg [1] (hf _ (bh ae)) .tt (ax .tt aH) rfl aP rfl λI a w U=>?_;refine zt ?_;refine U.cd (λah=>?_) λah=>?_
  .refine aF λI a w U=>?_;refine U.dx () [0,1] rfl (.cons (.t rfl) .nil) trivial rfl (gx (nB ae aM ah).symm)
  refine aF λI a w U=>?_;exact U.ag (k+1) (⟨ae,λi h1=>by rcases Nat.lt_succ_iff_lt_or_eq.1 h1 with h|h;exact aM i h;rw[h];exact ah⟩)
 simp only[B,List.length_map] at ae;refine zt ?_;refine aB λI a w U=>?_;refine U.dx () [0,1] rfl (.cons (.t rfl) .nil) trivial rfl (gx (mS om aM).symm)
def Kn (v:Value) (l:List aw) (p:aw->Bool) (fv:AV) (O:Own) (hl:l.length<=1048576) (hf:∀x,x∈l->CD prog fv [x.av] [O] (AV.bool (p x))):
 dp prog 345 [AV.val v,fv] [Own.row v 125 3 (l.map aw.cells),O] (λ_:Value=>True) (λu=>[Own.row u 125 3 ((l.filter λd=>!p d).map aw.cells),O]) AV.val:=by
 refine dp.intro 42 func345 rfl ntmps345 rfl aO (λW I a U=>?_);refine bk λI a w U=>?_;refine U.fR [0,1] (acu v l p fv O hl hf) (ax .tt (ax .tt aH)) rfl aP rfl λI a w U=>?_;refine aR λI a w U=>?_;refine U.cd (λae=>?_) λae=>?_
 .refine aF λI a w U=>?_;simp only[B] at ae;refine U.dx v [0,1] rfl (.cons (.t rfl) .nil) trivial (by rw[acq om];rfl) rfl
 refine wp_skip<|bm<|wp_seq<|wp_seq ?_;simp only[B] at ae;have lY:=ab1 p l;have h0:0<=df p l:=by omega
 obtain⟨h1,h2,h3⟩:=FR h0;obtain⟨b,cap,rfl⟩:=U.ku 0 rfl lf;rw[show l.map aw.cells=(jv p l ((df p l).toNat+1)).map aw.cells from by rw[RX h0]] at U;rw[show((jv p l ((df p l).toNat+1)).map aw.cells).length=(l.map aw.cells).length from by rw[RX h0]] at U;refine aR λI a w U=>?_;refine St.IA (σ:=Nat) (run 3 5 (run 20 16 [])) ⟨λj=>[(6,AV.int j),(5,AV.int (kp p l j).length)],λj=>[Own.row (.slice (some ⟨b,0,none⟩) (l.map aw.cells).length cap) 125 3 ((jv p l (j)).map aw.cells),O],λj=>j<=l.length/\(kp p l j).length<j⟩ (λj=>l.length-j) ((df p l).toNat+1) U rfl ?aI ?Ko ?bF;case aI=>exact⟨by omega,by rw[Km h0,List.length_take];omega⟩
 case Ko=>exact(Env.dA rfl (by exact congrArg AV.int om) (Env.dA rfl (by exact congrArg AV.int (by rw[Km h0,List.length_take];omega)) Env.le_nil))
 rintro j I a w ao U;obtain⟨hj,hkj⟩:=ao;dsimp only at U;have mL:=ack (p:=p) hj;have hle:(l.map aw.cells).length=((jv p l (j)).map aw.cells).length:=by rw[List.length_map,List.length_map,mL]
 refine aG λI a w U=>?_;refine U.o (tv 0 dX .tt rfl) λU=>?_;refine aB λI a w U=>?_;refine U.cd (λah=>?_) λah=>?_
 .simp only[B,List.length_map] at ah;have ah:j<l.length:=by omega
  refine aG λI a w U=>?_;rw[hle] at U;refine U.o (jF dX cW .tt .tt (λ_=>by simp only[List.length_map];omega)) λU=>?_;refine U.o (tw 0 cW .tt rfl (λ_=>by show((jv p l j).map aw.cells)[j]?=some (ab l j).cells;rw[<-acn (p:=p) ah];exact gB om) rfl) λU=>?_;refine U.alloc rfl cW gX λb7 I a w U=>?_;refine aB λI a w U=>?_;obtain⟨I,U⟩:=U.fb 2 7;refine aG λI a w U=>?_;refine U.Rg [1] (hf _ (bh ah)) .tt (ax .tt aH) rfl aP rfl λI a w U=>?_;refine aB λI a w U=>?_;refine cz (λaq=>?_) λaq=>?_
  .refine wp_seq ?_;have hw:(kp p l j).length<(jv p l j).length:=by omega
   refine bk λI a w U=>?_;refine U.o (jF dX cW .tt .tt (λ_=>by simp only[List.length_map];omega)) λU=>?_;refine U.mn 0 cW .tt .tt rfl (by exact gB hw) rfl rfl λa w U=>?_;refine iM λI a w U=>?_;have U:=U.drop 2;rw[Int.toNat_natCast (kp p l j).length] at U;rw[show((jv p l (j)).map aw.cells).set (kp p l j).length (ab l j).cells=(jv p l (j+1)).map aw.cells from by rw[<-aco ah aq,List.map_set]] at U;rw[<-hle] at U;refine U.again (j+1) ?hO ?hP dR ?hZ (by repeat(first|exact Env.le_rfl|refine Env.iy rfl ?_));case hO=>omega
   case hP=>exact⟨ah,by rw[FT ah aq,List.length_append];simp;omega⟩
   case hZ=>exact(Env.dA rfl dR (Env.dA rfl (by first|exact congrArg AV.int (by rw[FT ah aq,List.length_append];simp)|exact congrArg AV.int (by rw[CT ah aq])) Env.le_nil))
  refine aR λI a w U=>?_;have U:=U.drop 2;rw[<-hle,<-acp ah aq] at U;refine U.again (j+1) ?mV ?mW dR ?mX (by repeat(first|exact Env.le_rfl|refine Env.iy rfl ?_));case mV=>omega
  case mW=>exact⟨ah,by rw[CT ah aq];omega⟩
  case mX=>exact(Env.dA rfl dR (Env.dA rfl (by first|exact congrArg AV.int (by rw[FT ah aq,List.length_append];simp)|exact congrArg AV.int (by rw[CT ah aq])) Env.le_nil))
 simp only[B,List.length_map] at ah;refine zt ?_;refine aG λI a w U=>?_;have aW:((jv p l (j)).map aw.cells)≠[]:=by intro e;have:=congrArg List.length e;simp only[List.length_map,List.length_nil] at this;omega
 obtain⟨b2,pw,he,ml,js,n7,U⟩:=U.u9 0 rfl aW;simp only[Value.slice.injEq,Option.some.injEq,Addr.mk.injEq] at he;obtain⟨⟨rfl,_⟩,_,rfl⟩:=he;refine U.o (JV (lo:=(kp p l j).length) dX cW .tt .tt rfl lf (by rw[hle];exact ml)) λU=>?_;have hF:((jv p l (j)).map aw.cells).flatten.length=((jv p l (j)).map aw.cells).length*3:=iz (λr hr=>by obtain⟨d,_,rfl⟩:=List.mem_map.1 hr;rfl);refine U.JX 0 dX cW rfl jk .tt lf rfl (by simp only[List.length_append,List.length_map,List.length_replicate,hF,mL];omega) λU=>?_;have U:=U.tF (l:=(kp p l j).map aw.cells) (cap:=cap) 0 rfl (by rw[my]<;>simp only[List.length_append,List.length_map,List.length_replicate,hF,mL]<;>simp only[List.length_map,mL] at ml<;>omega) (λr hr=>by obtain⟨d,_,rfl⟩:=List.mem_map.1 hr;rfl) (by rw[List.length_map];simp only[List.length_map,mL] at ml;omega) n7 js (acs mL);rw[show((kp p l j).map aw.cells).length=(kp p l j).length from List.length_map _] at U;refine aG λI a w U=>?_;refine U.o (tH (hi:=(kp p l j).length) dX cW .tt .tt rfl (by simp only[List.length_map,mL] at ml;omega) n7) λU=>?_;refine aB λI a w U=>?_;obtain rfl:j=l.length:=by omega
 rw[acm] at U;refine U.dx _ [0,1] rfl (.cons (.t rfl) .nil) trivial (by rw[List.length_map];rfl) rfl
def RY (s:Server) (v:aA) (h1:ct s.an=true) (h2:ct s.waits=true):(!(lq s.an ⟨v.key,v.ar⟩).isSome&&!(lq s.waits ⟨v.key,v.ar⟩).isSome)=decide (placeOf s.an v.aU<0/\placeOf s.waits v.aU<0):=by
 rw[Au h1,Au h2,Bool.eq_iff_iff];show _↔decide (placeOf s.an ⟨v.key,v.ar⟩<0/\placeOf s.waits ⟨v.key,v.ar⟩<0)=true;simp
def Server.avK (s:Server) (x:AV):AV:=.agg [.int s.site,.bool s.up,tE s.aD,bU s.an,bU s.waits,bE s.aE,x]
def acw (s:Server) (d:aw) (x:AV):
 Fn prog 348 [s.avK x,d.av] (AV.bool (iq s d)):=by
 refine Fn.go 9 func348 ntmps348 (λW I a U=>?_);refine bY λI a w U=>?_;refine U.o (nu (ax .tt aH)) λU=>?_;refine U.o (.cl (J9 s.waits (sk d) _ (λv _=>Fn.val (RV v d)))) λU=>?_;refine bf ?_;exact bB (by unfold iq;rw[<-ym];simp)
end Go.Proofs.YtldbakcpcfdlaaaGreat
