/- Part 10: contracts of functions, plain facts. -/
import Derived.Test.YtdanidpleofjgaaGreatP09
set_option linter.all false
set_option maxRecDepth 100000
set_option maxHeartbeats 4000000
namespace Go.Proofs.YtdanidpleofjgaaGreat
open Go Go.RowKit Tryz
attribute [local irreducible] wpList Code.wp Ok
def jg (n a b:Int):
 Fn prog 46 [AV.int n,AV.int a,AV.int b] (AV.bool (aS n a b)):=by
 refine Fn.go 15 func46 ntmps46 (λW I a U=>?_);refine uE λI a w U=>?_;refine U.rt ?_;exact bF (by simp only[aS,ge_iff_le])
def rS (n:Int):
 Fn prog 88 [AV.int n] (AV.bool (cO n)):=by
 refine Fn.go 5 func88 ntmps88 (λW I a U=>?_);refine aH λI a w U=>?_;refine U.o (.cl (jg ..)) λU=>?_;refine bc ?_;rfl
def uH (n:Int):
 Fn prog 97 [AV.int n] (AV.bool (df n)):=by
 refine Fn.go 5 func97 ntmps97 (λW I a U=>?_);refine aH λI a w U=>?_;refine U.o (.cl (jg ..)) λU=>?_;refine bc ?_;rfl
def wv (s:cw):
 Fn prog 99 [s.av] (AV.bool (dr s)):=by
 refine Fn.go 11 func99 ntmps99 (λW I a U=>?_);refine bz λI a w U=>?_;refine U.o (.cl (jg ..)) λU=>?_;refine aV λI a w U=>?_;refine U.q .T (.cl (rS ..)) λU=>?_;refine di ?_;rfl
def wx (s t:cw):
 Fn prog 150 [s.av,t.av] (AV.bool (ck s t)):=by
 refine Fn.go 24 func150 ntmps150 (λW I a U=>?_);refine Df λI a w U=>?_;refine U.rt ?_;rfl
def ko (l:List ao) (k:Nat):Int:=if k=0 then-1 else(ab l (k-1)).key
def Oj (l:List ao) (k:Nat):ko l (k+1)=(ab l k).key:=by simp[ko]
def Ol {l:List ao} {k:Nat} (hk:k<l.length):dH (ko l k) (l.drop k)=(aS (ab l k).key (ko l k+1) 5&&dr (ab l k).ar&&dH (ko l (k+1)) (l.drop (k+1))):=by
 rw[lE hk,Oj];rfl
def Om {l:List ao} {k:Nat} (hp:-1<=ko l k):(!df (ab l k).key||!dr (ab l k).ar||(decide (0<(k:Int))&&decide ((ab l k).key<=(ab l ((k:Int)-1).toNat).key)))=!(aS (ab l k).key (ko l k+1) 5&&dr (ab l k).ar):=by
 rw[show((k:Int)-1).toNat=k-1 from by omega];rcases Nat.eq_zero_or_pos k with rfl|h
 .simp[ko,df,aS]
 have h0:k≠0:=by omega
 have Hc:-1<=(ab l (k-1)).key:=by simpa[ko,h0] using hp
 have h1:(0<(k:Int)):=by omega
 simp only[ko,if_neg h0,df,aS];generalize (ab l (k-1)).key=p at*;generalize (ab l k).key=q at*;rw[Bool.eq_iff_iff];cases dr (ab l k).ar<;>simp[h1]<;>omega
def XZ {l:List ao} {k:Nat} (hk:k<l.length) (hd:bN l=dH (ko l k) (l.drop k)) (hp:-1<=ko l k) (h:(aS (ab l k).key (ko l k+1) 5&&dr (ab l k).ar)=true):
 k+1<=l.length/\bN l=dH (ko l (k+1)) (l.drop (k+1))/\-1<=ko l (k+1):=by
 refine⟨hk,by rw[hd,Ol hk,h,Bool.true_and],?_⟩;rw[Oj];simp[aS] at h;omega
def X0 {l:List ao} {k:Nat} (hk:k<l.length) (hd:bN l=dH (ko l k) (l.drop k)) (h:(aS (ab l k).key (ko l k+1) 5&&dr (ab l k).ar)=false):false=bN l:=by
 rw[hd,Ol hk,h,Bool.false_and]
def pI (l:List ao):
 Fn prog 50 [bw l] (AV.bool (bN l)):=by
 refine Fn.go 44 func50 ntmps50 (λW I a U=>?_);have hle:=U.dE (t:=0) rfl;refine aB λI a w U=>?_;refine St.lo (σ:=Nat) (run 42 2 []) ⟨λk=>[(3,AV.int k)],λk=>[],λk=>k<=l.length/\bN l=dH (ko l k) (l.drop k)/\-1<=ko l k⟩ (λk=>l.length-k) 0 U ?aL ?bG;case aL=>exact⟨by simp,rfl,by simp[ko]⟩
 rintro k I a w al U;obtain⟨hk,hd,hp⟩:=al;refine aY λI a w U=>?_;refine cz (λae=>?_) λae=>?_
 .refine zt ?_;refine U.dk ?_;refine fD ?_;refine .o (.c1 (uH ..)) ?_;refine kJ ?_;refine .q .F (.cl (wv ..)) ?_;refine nd ?_;refine dM ?_;refine .nil ?_;intro I a w U;refine bk ?_;refine U.cd (λah=>?_) λah=>?_
  .rw[Om hp] at ah;simp only[Bool.not_eq_true'] at ah;refine bc ?_;exact bF (X0 ae hd ah)
  rw[Om hp] at ah;simp only[Bool.not_eq_false'] at ah;refine aN λI a w U=>?_;exact U.ag (k+1) (XZ ae hd hp ah)
 refine zt ?_;refine bc ?_;exact bF (by rw[hd,List.drop_eq_nil_of_le om];rfl)
def nt {b:Bool} (h:(!b)=true):b=false:=by simpa using h
def nf {b:Bool} (h:(!b)=false):b=true:=by simpa using h
def Ds (l:List ao) (k:Nat) (t:Int):decide (t<=(ab l k).ar.time)=!decide ((ab l k).ar.time<t):=by
 rw[Bool.eq_iff_iff];simp
def He (v:aE):Bool:=df v.key&&dr v.ar&&aS v.val 0 9999&&fC v.aq&&aS v.call 1 99&&bN v.aR
def Dt (v:aE):(!df v.key||!dr v.ar||!aS v.val 0 9999||!fC v.aq||!aS v.call 1 99||!bN v.aR)=!He v:=by simp[He]
def yC (v:aE):ef v=(He v&&MN v.ar.time v.aR):=rfl
def Du (v:aE):
 Fn prog 151 [v.av] (AV.bool (ef v)):=by
 refine Fn.go 56 func151 ntmps151 (λW I a U=>?_);have Hg:v.aR.length<=9223372036854775807:=by
  obtain⟨cs,_,hc⟩:=U.env 0 _ rfl;obtain⟨u,_,hu,_⟩:=hc.get (i:=6) rfl;exact Ap hu
 refine bz λI a w U=>?_;refine U.o (.c1 (uH ..)) λU=>?_;refine bz λI a w U=>?_;refine U.q .F (.cl (wv ..)) λU=>?_;refine bO λI a w U=>?_;refine U.q .F (.cl (jg ..)) λU=>?_;refine bO λI a w U=>?_;refine U.q .F (.cl (jg ..)) λU=>?_;refine bO λI a w U=>?_;refine U.q .F (.cl (jg ..)) λU=>?_;refine bO λI a w U=>?_;refine U.q .F (.cl (pI ..)) λU=>?_;refine aB λI a w U=>?_;refine U.cd (λae=>?_) λae=>?_
 .rw[show aS v.aq 0 1=fC v.aq from rfl,Dt v] at ae;replace ae:=nt ae;refine bc ?_;exact bF (by rw[yC,ae];rfl)
 rw[show aS v.aq 0 1=fC v.aq from rfl,Dt v] at ae;replace ae:=nf ae;refine ax λI a w U=>?_;refine St.lo (σ:=Nat) (run 2 2 (run 18 38 [])) ⟨λk=>[(3,AV.int k)],λk=>[],λk=>k<=v.aR.length/\∀i,i<k->(λi=>decide ((ab v.aR i).ar.time<v.ar.time)) i=true⟩ (λk=>v.aR.length-k) 0 U ?aL ?bG;case aL=>exact⟨by simp,λi hi=>by omega⟩
 rintro k I a w al U;obtain⟨hk,aT⟩:=al;have hle:v.aR.length<=9223372036854775807:=Hg;refine ct λI a w U=>?_;refine cz (λah=>?_) λah=>?_
 .refine ax λI a w U=>?_;refine U.cd (λaj=>?_) λaj=>?_
  .rw[Ds] at aj;replace aj:=nt aj;refine bc ?_;exact bF (by rw[yC,ae];exact(fN (f:=(λi=>decide ((ab v.aR i).ar.time<v.ar.time))) ah aj).symm)
  rw[Ds] at aj;replace aj:=nf aj;refine aN λI a w U=>?_;exact U.ag (k+1) (⟨by omega,gO aT aj⟩)
 refine zt ?_;refine bc ?_;exact bF (by rw[yC,ae];exact(fJ aT om).symm)
def Hh (a b:aE):
 Fn prog 152 [a.av,b.av] (AV.bool (gu a b)):=by
 refine Fn.go 24 func152 ntmps152 (λW I a U=>?_);refine NN λI a w U=>?_;refine U.q .T2 (.cl (wx ..)) λU=>?_;refine tj ?_;rfl
def dm {α:Type} (p:α->Bool) (l:List α):Int:=match l.findIdx? p with
 |some k=>k
 |none=>-1
def ng {α:Type} [Inhabited α] {p:α->Bool} {l:List α} {k:Nat} (hk:k<l.length) (h:∀i,i<k->p (ab l i)=false) (hp:p (ab l k)=true):dm p l=k:=by
 have:l.findIdx? p=some k:=by
  rw[List.findIdx?_eq_some_iff_getElem];refine⟨hk,by simpa[ab,hk] using hp,λj hj=>?_⟩;have:=h j hj;have kY:j<l.length:=by omega
  simpa[ab,kY] using this
 unfold dm;rw[this]
def mF {α:Type} [Inhabited α] {p:α->Bool} {l:List α} {k:Nat} (hk:l.length<=k) (h:∀i,i<k->p (ab l i)=false):dm p l=-1:=by
 have:l.findIdx? p=none:=by
  rw[List.findIdx?_eq_none_iff];intro x hx;obtain⟨i,hi,rfl⟩:=List.getElem_of_mem hx;have:=h i om;simpa[ab,hi] using this
 unfold dm;rw[this]
def nh (d:ao) (v:aE):Bool:=decide (v.bh=d)
def placeOf (l:List aE) (d:ao):Int:=dm (nh d) l
def On:∀(l:List ao) (last:Int),dH last l=true->last<=5->(l.length:Int)<=5-last
 |[],last,_,h=>by simp;omega
 |d::r,last,h,hl=>by
  simp only[dH,Bool.and_eq_true,aS,decide_eq_true_eq] at h;have:=On r d.key h.2 om;simp;omega
def oX (a b:Int):Bool:=decide (a<b)
def kK (l:List Int):Bool:=de l.length (eQ df oX l)
def rT:aE:=⟨0,⟨0,0⟩,0,0,0,[]⟩
def rU (v u:aE):Bool:=decide (v=u)
def Oo (l:List Int) (k:Nat):(!df (ab l k)||(decide (0<(k:Int))&&decide (ab l k<=ab l ((k:Int)-1).toNat)))=!eQ df oX l k:=by
 rw[<-uy];have e:decide (ab l k<=ab l ((k:Int)-1).toNat)=!oX (ab l ((k:Int)-1).toNat) (ab l k):=by rw[Bool.eq_iff_iff];simp[oX]
 rw[e]
def wy (a:Answer):Bool:=if a.yes then ef a.bm&&(a.bm.key==a.key) else df a.key&&rU a.bm rT
def wz (c:Call):Bool:=!(decide ((c.keys.length:Int)<1)||decide (3<(c.keys.length:Int))||((c.kind==1)&&((c.keys.length:Int) !=1)))&&kK c.keys
def Dv (s:cw):([s.time,s.site]==[0,0])=dX s:=by
 rw[Bool.eq_iff_iff];simp[dX]
def X1 (x:Answer) (h:x.yes=false):(df x.key&&(x.bm.key==0)&&(x.bm.val==0)&&(x.bm.aq==0)&&(x.bm.call==0)&&dX x.bm.ar&&((x.bm.aR.length:Int)==0))=wy x:=by
 unfold wy;rw[h];obtain⟨k,y,⟨vk,⟨t,s⟩,vv,vc,vl,vd⟩⟩:=x;simp only[rU,rT,dX];rw[Bool.eq_iff_iff];simp;constructor
 .rintro⟨⟨⟨⟨⟨⟨h1,h2⟩,h3⟩,h4⟩,h5⟩,h6⟩,h7⟩;exact⟨h1,h2,h6,h3,h4,h5,h7⟩
 rintro⟨h1,h2,h6,h3,h4,h5,h7⟩;exact⟨⟨⟨⟨⟨⟨h1,h2⟩,h3⟩,h4⟩,h5⟩,h6⟩,h7⟩
def X2 (x:Answer):
 Fn prog 147 [x.av] (AV.bool (wy x)):=by
 refine Fn.go 55 func147 ntmps147 (λW I a U=>?_);refine ct λI a w U=>?_;refine cz (λae=>?_) λae=>?_
 .refine aH λI a w U=>?_;refine U.alloc rfl bU dR λb3 I a w U=>?_;refine ax λI a w U=>?_;obtain⟨I,U⟩:=U.fb 0 3;refine aH λI a w U=>?_;refine U.o (.c1 (uH ..)) λU=>?_;refine Wj λI a w U=>?_;refine U.q .T (.bd ic aW.nil) λU=>?_;refine U.q .T (mq [_,_] [_,_] mD rfl rfl .ag .ag) λU=>?_;refine rR λI a w U=>?_;refine U.rt ?_;exact bF (by rw[<-X1 x ae,<-Dv])
 refine aH λI a w U=>?_;refine U.o (.c1 (Du ..)) λU=>?_;refine mA λI a w U=>?_;refine U.rt ?_;exact bF (by unfold wy;rw[ae];rfl)
def iS (n a b:Int):
 Fn prog 55 [AV.int n,AV.int a,AV.int b] (AV.bool (aS n a b)):=by
 refine Fn.go 15 func55 ntmps55 (λW I a U=>?_);refine uE λI a w U=>?_;refine U.rt ?_;rfl
def tu (n:Int):
 Fn prog 106 [AV.int n] (AV.bool (cO n)):=by
 refine Fn.go 5 func106 ntmps106 (λW I a U=>?_);refine aH λI a w U=>?_;refine U.o (.cl (iS ..)) λU=>?_;refine bc ?_;rfl
def A6 (n:Int):
 Fn prog 115 [AV.int n] (AV.bool (df n)):=by
 refine Fn.go 5 func115 ntmps115 (λW I a U=>?_);refine aH λI a w U=>?_;refine U.o (.cl (iS ..)) λU=>?_;refine bc ?_;rfl
def A7 (n:Int):
 Fn prog 171 [AV.int n] (AV.bool (fC n)):=by
 refine Fn.go 5 func171 ntmps171 (λW I a U=>?_);refine aH λI a w U=>?_;refine U.o (.cl (iS ..)) λU=>?_;refine bc ?_;rfl
def yN (s:cw):
 Fn prog 118 [s.av] (AV.bool (dr s)):=by
 refine Fn.go 11 func118 ntmps118 (λW I a U=>?_);refine bz λI a w U=>?_;refine U.o (.cl (iS ..)) λU=>?_;refine aV λI a w U=>?_;refine U.q .T (.cl (tu ..)) λU=>?_;refine di ?_;rfl
def OV (s:cw):
 Fn prog 98 [s.av] (AV.bool (ld s)):=by
 refine Fn.go 10 func98 ntmps98 (λW I a U=>?_);refine aV λI a w U=>?_;refine U.o (.bd ic aW.nil) λU=>?_;refine U.o (mq [_,_] [_,_] mD rfl rfl .tt .tt) λU=>?_;refine aH λI a w U=>?_;refine U.q .F (.cl (wv ..)) λU=>?_;refine di ?_;exact bF (by simp[ld,dX])
def A8 (n:Int):
 Fn prog 166 [AV.int n] (AV.int (bP n)):=by
 refine Fn.go 8 func166 ntmps166 (λW I a U=>?_);refine aH λI a w U=>?_;refine U.o (.c1 (tu ..)) λU=>?_;refine ax λI a w U=>?_;refine cz (λae=>?_) λae=>?_
 .refine bc ?_;exact fM (by simp[bP,ae])
 refine bA λI a w U=>?_;refine U.o (vR .tt .c (λ_=>by simp[cO,aS] at ae;omega)) λU=>?_;refine bc ?_;exact fM (by simp[bP,ae])
def A9 (l:List ao):
 Fn prog 62 [bw l] (AV.bool (bN l)):=by
 refine Fn.go 27 func62 ntmps62 (λW I a U=>?_);refine ct λI a w U=>?_;refine St.lo (σ:=Nat×Int) (run 2 2 (5::(run 19 8 []))) ⟨λ⟨k,last⟩=>[(8,AV.int k),(3,AV.int last)],λ⟨k,last⟩=>[],λ⟨k,last⟩=>k<=l.length/\bN l=dH last (l.drop k)/\-1<=last/\last<=5⟩ (λ⟨k,last⟩=>l.length-k) (0,-1) U ?aL ?bG;case aL=>exact⟨by simp,rfl,by omega,by omega⟩
 rintro⟨k,last⟩ I a w al U;obtain⟨hk,hd,Ba,oE⟩:=al;have hle:=U.dE (t:=0) rfl;refine ax λI a w U=>?_;refine cz (λae=>?_) λae=>?_
 .refine aH λI a w U=>?_;refine U.alloc rfl cE fh λb5 I a w U=>?_;refine ax λI a w U=>?_;obtain⟨I,U⟩:=U.fb 0 5;refine bz λI a w U=>?_;refine U.o (.cl (iS ..)) λU=>?_;refine bz λI a w U=>?_;refine U.q .F (.cl (yN ..)) λU=>?_;refine aB λI a w U=>?_;refine cz (λah=>?_) λah=>?_
  .refine bc ?_;exact bF (by rw[hd,lE ae];simp only[dH];rcases ah with h|h<;>simp[h])
  refine ct λI a w U=>?_;have U:=U.drop 0;exact U.ag (k+1,(ab l k).key) (by(rw[hd,lE ae];simp[dH,ah,aS];simp[aS] at ah;omega))
 refine zt ?_;refine bc ?_;exact bF (by rw[hd,List.drop_eq_nil_of_le om];rfl)
def Hs (v:aE):
 Fn prog 122 [v.av] (AV.bool (ef v)):=by
 refine Fn.go 54 func122 ntmps122 (λW I a U=>?_);have Hg:v.aR.length<=9223372036854775807:=by
  obtain⟨cs,_,hc⟩:=U.env 0 _ rfl;obtain⟨u,_,hu,_⟩:=hc.get (i:=6) rfl;exact Ap hu
 refine bz λI a w U=>?_;refine U.o (.c1 (A6 ..)) λU=>?_;refine bz λI a w U=>?_;refine U.q .F (.cl (yN ..)) λU=>?_;refine bO λI a w U=>?_;refine U.q .F (.cl (iS ..)) λU=>?_;refine bO λI a w U=>?_;refine U.q .F (.cl (A7 ..)) λU=>?_;refine bO λI a w U=>?_;refine U.q .F (.cl (iS ..)) λU=>?_;refine bO λI a w U=>?_;refine U.q .F (.cl (A9 ..)) λU=>?_;refine aB λI a w U=>?_;refine U.cd (λae=>?_) λae=>?_
 .rw[Dt v] at ae;replace ae:=nt ae;refine bc ?_;exact bF (by rw[yC,ae];rfl)
 rw[Dt v] at ae;replace ae:=nf ae;refine aY λI a w U=>?_;refine St.lo (σ:=Nat) (2::(4::(run 12 42 []))) ⟨λk=>[(42,AV.int k)],λk=>[],λk=>k<=v.aR.length/\∀i,i<k->(λi=>decide ((ab v.aR i).ar.time<v.ar.time)) i=true⟩ (λk=>v.aR.length-k) 0 U ?aL ?bG;case aL=>exact⟨by simp,λi hi=>by omega⟩
 rintro k I a w al U;obtain⟨hk,aT⟩:=al;have hle:v.aR.length<=9223372036854775807:=Hg;refine ax λI a w U=>?_;refine cz (λah=>?_) λah=>?_
 .refine aH λI a w U=>?_;refine U.alloc rfl cE fh λb4 I a w U=>?_;refine ax λI a w U=>?_;obtain⟨I,U⟩:=U.fb 0 4;refine jf λI a w U=>?_;refine U.cd (λaj=>?_) λaj=>?_
  .rw[Ds] at aj;replace aj:=nt aj;refine bc ?_;exact bF (by rw[yC,ae];exact(fN (f:=(λi=>decide ((ab v.aR i).ar.time<v.ar.time))) ah aj).symm)
  rw[Ds] at aj;replace aj:=nf aj;refine aB λI a w U=>?_;have U:=U.drop 0;exact U.ag (k+1) (⟨by omega,gO aT aj⟩)
 refine zt ?_;refine bc ?_;exact bF (by rw[yC,ae];exact(fJ aT om).symm)
def YD (n:Int):fC (n-10)=aS n 10 11:=by
 simp only[fC,aS];rw[Bool.eq_iff_iff];simp;omega
def tv (l:List aE):
 Fn prog 91 [bQ l] (AV.bool (bY l)):=by
 refine Fn.go 36 func91 ntmps91 (λW I a U=>?_);have hle:=U.dE (t:=0) rfl;refine aY λI a w U=>?_;refine cz (λae=>?_) λae=>?_
 .refine bc ?_;exact bF (by simp[bY];omega)
 refine ax λI a w U=>?_;refine St.lo (σ:=Nat) (run 2 2 (run 29 7 [])) ⟨λk=>[(3,AV.int k)],λk=>[],λk=>k<=l.length/\∀i,i<k->(eQ ef gu l) i=true⟩ (λk=>l.length-k) 0 U ?aL ?bG;case aL=>exact⟨by simp,λi hi=>by omega⟩
 rintro k I a w al U;obtain⟨hk,aT⟩:=al;refine aY λI a w U=>?_;refine cz (λah=>?_) λah=>?_
 .refine zt ?_;refine U.dk ?_;refine dM ?_;refine .o (.c1 (Du ..)) ?_;refine tk ?_;refine .q .T2 (.cl (Hh ..)) ?_;refine dJ ?_;refine .nil ?_;intro I a w U;refine bk ?_;refine U.cd (λaj=>?_) λaj=>?_
  .rw[uy] at aj;replace aj:=nt aj;refine bc ?_;exact bF (by unfold bY;rw[fN (f:=(eQ ef gu l)) ah aj];simp)
  rw[uy] at aj;replace aj:=nf aj;refine aN λI a w U=>?_;exact U.ag (k+1) (⟨by omega,gO aT aj⟩)
 refine zt ?_;refine bc ?_;exact bF (by unfold bY;rw[fJ aT om,Bool.and_true];simp;omega)
def Ht (n:Int):
 Fn prog 165 [AV.int n] (AV.int (cW n)):=by
 refine Fn.go 9 func165 ntmps165 (λW I a U=>?_);refine aH λI a w U=>?_;refine U.o (.c1 (A6 ..)) λU=>?_;refine ax λI a w U=>?_;refine cz (λae=>?_) λae=>?_
 .refine bc ?_;exact fM (by simp[cW,ae])
 refine bA λI a w U=>?_;refine U.o (m6 .tt .c (λ_=>by simp[df,aS] at ae;omega)) λU=>?_;refine U.o (vR .tt .c (λ_=>by simp[df,aS] at ae;omega)) λU=>?_;refine bc ?_;exact fM (by simp[cW,ae])
def hasB {α:Type} (p:α->Bool) (l:List α):Bool:=decide (0<=dm p l)
def Hu {α:Type} [Inhabited α] {p:α->Bool} {l:List α} (h:0<=dm p l):∃k,k<l.length/\p (ab l k)=true:=by
 unfold dm at h;split at h
 .rename_i k hk;obtain⟨h1,h2,_⟩:=List.findIdx?_eq_some_iff_getElem.1 hk;exact⟨k,h1,by simpa[ab,h1] using h2⟩
 omega
def Bb {α:Type} [Inhabited α] {p:α->Bool} {l:List α} (h:dm p l<0):∀k,k<l.length->p (ab l k)=false:=by
 unfold dm at h;split at h
 .omega
 rename_i hn;rw[List.findIdx?_eq_none_iff] at hn;intro k hk;have:=hn (ab l k) (by unfold ab;rw[List.getD_eq_getElem?_getD,List.getElem?_eq_getElem hk];exact List.getElem_mem _);exact this
def missing (l:List aE) (d:ao):Bool:=decide (placeOf l d<0)
def yO (l:List aE) (ds:List ao):Bool:=!hasB (missing l) ds
def dU (s:Server) (key:Int):Int:=(ab s.aF (cW key).toNat).dy
def qG (x:cG):Bool:=aS x.bf 0 9999&&aS x.dy 0 2&&!((x.dy !=0)&&(x.bf==0))
def tw (s:Server):Bool:=cO s.site&&decide (s.aF.length=3)&&bY s.an&&bY s.waits&&fY s.aD&&fY s.bj&&!(!s.up&&decide (0<s.bj.length))
def se (s:Server) (i:Nat):Bool:=qG (ab s.aF i)
def tx (s:Server) (i:Nat):Bool:=dU s (ab s.an i).key !=0
def tz (s:Server) (v:aE):Bool:=(dU s v.key !=0)&&(bP v.ar.site !=bP s.site)&&decide (placeOf s.an v.bh<0)
def sf (s:Server) (i:Nat):Bool:=tz s (ab s.waits i)
def gQ (s:Server):Bool:=tw s&&de s.aF.length (se s)&&de s.an.length (tx s)&&de s.waits.length (sf s)&&yO s.an s.aD
def DH (s:Server):(!cO s.site||((s.aF.length:Int) !=3)||!bY s.an||!bY s.waits||!fY s.aD||!fY s.bj||(!s.up&&decide (0<(s.bj.length:Int))))=!tw s:=by
 have e:((s.aF.length:Int) !=3)=!decide (s.aF.length=3):=by rw[Bool.eq_iff_iff];simp;omega
 have e2:decide (0<(s.bj.length:Int))=decide (0<s.bj.length):=by rw[Bool.eq_iff_iff];simp
 rw[e,e2];simp[tw]
def Hv (x:cG):(!aS x.bf 0 9999||!aS x.dy 0 2||((x.dy !=0)&&(x.bf==0)))=!qG x:=by simp[qG]
def OW (s:Server) (i:Nat):(dU s (ab s.an i).key==0)=!tx s i:=by simp[tx,bne]
def OX (s:Server) (v:aE):((dU s v.key==0)||!(bP v.ar.site !=bP s.site)||decide (0<=placeOf s.an v.bh))=!tz s v:=by
 have e:decide (0<=placeOf s.an v.bh)=!decide (placeOf s.an v.bh<0):=by rw[Bool.eq_iff_iff];simp
 rw[e];simp[tz,bne]
def uP {l:List aE} (h:bY l=true) {k:Nat} (hk:k<l.length):ef (ab l k)=true:=by
 unfold bY at h;rw[Bool.and_eq_true,js] at h;have:=h.2 k hk;unfold eQ at this;rw[Bool.and_eq_true] at this;exact this.1
def qH {v:aE} (h:ef v=true):df v.key=true:=by
 simp only[ef,Bool.and_eq_true] at h;exact h.1.1.1.1.1.1
def DI {s:Server} (h:tw s=true):s.aF.length=3/\bY s.an=true/\bY s.waits=true/\fY s.aD=true/\fY s.bj=true/\cO s.site=true:=by
 simp only[tw,Bool.and_eq_true,decide_eq_true_eq] at h;exact⟨h.1.1.1.1.1.2,h.1.1.1.1.2,h.1.1.1.2,h.1.1.2,h.1.2,h.1.1.1.1.1.1⟩
def qI {n:Int} (h:df n=true):0<=cW n/\cW n<3:=by
 unfold cW;simp only[h,if_true];simp[df,aS] at h;omega
def Hw (s:Server) (key:Int) (hk:df key=true) (hl:s.aF.length=3):
 Fn prog 108 [s.av,AV.int key] (AV.int (dU s key)):=by
 refine Fn.go 12 func108 ntmps108 (λW I a U=>?_);have hr:=qI hk;refine aB λI a w U=>?_;refine U.dk ?_;refine dJ ?_;refine .o (.c1 (Ht ..)) ?_;refine dM ?_;refine .nil ?_;intro I a w U;refine zt ?_;refine U.rt ?_;rfl
def Hx (s:Server) (v:aE):
 Fn prog 109 [s.av,v.av] (AV.bool (bP v.ar.site !=bP s.site)):=by
 refine Fn.go 13 func109 ntmps109 (λW I a U=>?_);refine aN λI a w U=>?_;refine U.dk ?_;refine dJ ?_;refine .o (.c1 (A8 ..)) ?_;refine cj ?_;refine .o (.c1 (A8 ..)) ?_;refine cj ?_;refine .nil ?_;intro I a w U;refine zt ?_;refine U.rt ?_;rfl
def eS:List ao->ao->List ao
 |[],d=>[d]
 |e::r,d=>if e.key=d.key then(if ck e.ar d.ar then d else e)::r else if d.key<e.key then d::e::r else e::eS r d
def iB (a b:List ao):List ao:=b.foldl eS a
def OY:∀{l:List ao} {last:Int} {d:ao},dH last l=true->aS d.key (last+1) 5=true->dr d.ar=true->dH last (eS l d)=true
 |[],last,d,_,h,U=>by simp[eS,dH,h,U]
 |e::r,last,d,hl,h,U=>by
  simp only[dH,Bool.and_eq_true] at hl;obtain⟨⟨h1,h2⟩,h3⟩:=hl;unfold eS;split
  .rename_i hk;split
   .simp only[dH,Bool.and_eq_true];exact⟨⟨h,U⟩,hk▸h3⟩
   simp only[dH,Bool.and_eq_true];exact⟨⟨h1,h2⟩,h3⟩
  rename_i hk;split
  .rename_i bK;simp only[dH,Bool.and_eq_true];refine⟨⟨h,U⟩,⟨?_,h2⟩,h3⟩;simp[aS] at h1⊢;omega
  rename_i bK;simp only[dH,Bool.and_eq_true];refine⟨⟨h1,h2⟩,OY h3 ?_ U⟩;simp[aS] at h⊢;omega
def Hy:∀{l:List ao} {last:Int},dH last l=true->∀d∈l,last<d.key/\d.key<=5/\dr d.ar=true
 |[],_,_,d,hd=>by simp at hd
 |e::r,last,h,d,hd=>by
  simp only[dH,Bool.and_eq_true,aS,decide_eq_true_eq] at h;rcases List.mem_cons.1 hd with rfl|hd
  .exact⟨by omega,h.1.1.2,h.1.2⟩
  have:=Hy h.2 d hd;exact⟨by omega,this.2⟩
def g7 {α:Type} [Inhabited α] {l:List α} {x:α} (h:x∈l):∃k,k<l.length/\ab l k=x:=by
 obtain⟨k,hk,rfl⟩:=List.getElem_of_mem h;exact⟨k,hk,by simp[ab,hk]⟩
def OZ {a b:List ao} {k:Nat} (h:k<b.length):iB a (b.take (k+1))=eS (iB a (b.take k)) (ab b k):=by
 unfold iB;rw[ez h,List.foldl_append];rfl
structure jT (l:List ao) (d:ao) (k:Nat) (done:Bool) (out:List ao):Prop where
 hk:k<=l.length
 eq:eS l d=if done then out++l.drop k else out++eS (l.drop k) d
 late:done=true->∀i,k<=i->i<l.length->d.key<(ab l i).key
 len:out.length<=k+done.toNat
def jT.zero (l:List ao) (d:ao):jT l d 0 false []:=⟨Nat.zero_le _,by simp,(λh=>by cases h),by simp⟩
def np (a:Answer) (s:cw):Bool:=!a.yes||ck a.bm.ar s
def dF (a:Answer):Bool:=if a.yes then ef a.bm&&(a.bm.key==a.key) else rU a.bm rT
def gR (a b:Answer):Bool:=decide (a.key<b.key)
def pR (c:Call):Bool:=(c.aA.length:Int)==c.keys.length
def pd (c:Call) (time:Int):Bool:=if c.end_=0 then dX c.ar else !(c.over||!aS c.end_ (c.bE+1) time||decide (0<(c.aO.length:Int)))&&((c.kind==1&&!dX c.ar)||(!(c.kind==1)&&pR c))
def uQ (l:List Int) (k:Nat):Int:=if k=0 then-1 else ab l (k-1)
def YE (l:List Int) (k:Nat):uQ l (k+1)=ab l k:=by simp[uQ]
def Hz {n:Int}:df n=true↔0<=n/\n<=5:=by simp[df,aS]
def O0 {l:List Int} {k:Nat} (h:∀i,i<k->eQ df oX l i=true):-1<=uQ l k/\uQ l k<=5:=by
 unfold uQ;split
 .omega
 rename_i hk;have:=h (k-1) om;unfold eQ at this;rw[Bool.and_eq_true,Hz] at this;omega
def O1 {l:List Int} {k:Nat} (h:∀i,i<k->eQ df oX l i=true):aS (ab l k) (uQ l k+1) 5=eQ df oX l k:=by
 have:=O0 h;unfold eQ uQ at*;by_cases hk:k=0
 .subst hk;simp[df,aS]
 simp only[hk,if_false] at this⊢;rw[Bool.eq_iff_iff];simp[df,aS,oX];omega
def O2 (a:Answer):((a.yes&&(!ef a.bm||(a.bm.key !=a.key)))||(!a.yes&&!rU a.bm rT))=!dF a:=by
 unfold dF;cases a.yes<;>simp[bne]
def DJ {α:Type} [Inhabited α] {p:α->Bool} {l:List α} {x:α} (h:x∈l) (hp:p x=true):hasB p l=true:=by
 simp only[hasB,decide_eq_true_eq];rcases Int.lt_or_le (dm p l) 0 with hn|hn
 .obtain⟨k,hk,rfl⟩:=g7 h;rw[Bb hn k hk] at hp;cases hp
 exact hn
def yP {l:List Int} (h:kK l=true) {n:Int} (hn:n∈l):df n=true:=by
 obtain⟨k,hk,rfl⟩:=g7 hn;have:=(js.1 h) k hk;unfold eQ at this;rw[Bool.and_eq_true] at this;exact this.1
def tC {s:cw} (h:dr s=true):1<=s.time:=by simp[dr,aS] at h;omega
def fK:cw:=⟨0,0⟩
def O3 {s:cw} (h:1<=s.time):ck fK s=true:=by
 obtain⟨t,u⟩:=s;have h:(1:Int)<=t:=h;have e:decide ((0:Int)<t)=true:=decide_eq_true om;show(decide ((0:Int)<t)||_)=true;rw[e];rfl
def O4 {s:cw} (h:1<=s.time):ck s fK=false:=by
 obtain⟨t,u⟩:=s;have h:(1:Int)<=t:=h;show(decide (t<(0:Int))||((t==(0:Int))&&decide (u<(0:Int))))=false;have e:decide (t<(0:Int))=false:=decide_eq_false om;have e2:(t==(0:Int))=false:=by simp;omega
 rw[e,e2];rfl
def O5 {a:Answer} {s:cw} (h:dF a=true) (U:dr s=true):np a s=ck a.bm.ar s:=by
 unfold dF at h;unfold np;cases hy:a.yes
 .rw[hy] at h;simp[rU] at h;have:=tC U;rw[h,show ck rT.ar s=true from O3 this];rfl
 simp
def DK {f:Answer->Int}:∀{ks:List Int} {l:List Answer},ks.Pairwise (·<·)->(l.map f).Pairwise (·<·)->(∀a∈l,f a∈ks)->l.length<=ks.length
 |[],[],_,_,_=>Nat.le_refl _
 |[],a::l,_,_,h=>by have:=h a bt;simp at this
 |y::ks,[],_,_,_=>by simp
 |y::ks,a::l,hk,hl,h=>by
  rw[List.pairwise_cons] at hk;rw[List.map_cons,List.pairwise_cons] at hl;by_cases O6:f a=y
  .have:l.length<=ks.length:=DK hk.2 hl.2 λb hb=>by
    have h1:=h b (by simp[hb]);have h2:=hl.1 (f b) (List.mem_map.2 ⟨b,hb,rfl⟩);rcases List.mem_cons.1 h1 with h3|h3
    .omega
    exact h3
   simp;omega
  have NT:y<f a:=by
   rcases List.mem_cons.1 (h a bt) with h3|h3
   .exact absurd h3 O6
   exact hk.1 _ h3
  have:(a::l).length<=ks.length:=DK hk.2 (by rw[List.map_cons,List.pairwise_cons];exact hl) λb hb=>by
   have h1:=h b hb;rcases List.mem_cons.1 h1 with h3|h3
   .rcases List.mem_cons.1 hb with rfl|hb
    .exact absurd h3 O6
    have h2:=hl.1 (f b) (List.mem_map.2 ⟨b,hb,rfl⟩);omega
   exact h3
  simp at this⊢;omega
def O7 {α:Type} [Inhabited α] {f:α->Int} {l:List α} (h:∀i,0<i->i<l.length->f (ab l (i-1))<f (ab l i)):(l.map f).Pairwise (·<·):=by
 rw[List.pairwise_iff_getElem];intro i j hi hj jA;simp only[List.length_map] at hi hj;simp only[List.getElem_map];have e:∀k (hk:k<l.length),l[k]=ab l k:=λk hk=>by simp[ab,hk]
 rw[e i hi,e j hj];obtain⟨n,rfl⟩:∃n,j=i+1+n:=⟨j-(i+1),by omega⟩;clear jA;induction n with
 |zero=>have:=h (i+1) om hj;simpa using this
 |succ n ih=>
  have h1:=ih om
  have h2:=h (i+1+(n+1)) om hj
  rw[show i+1+(n+1)-1=i+1+n from by omega] at h2
  omega
def O8 {l:List Int} (h:kK l=true):l.Pairwise (·<·):=by
 have:=O7 (f:=λn:Int=>n) (l:=l) λi h0 hi=>by
  have:=(js.1 h) i hi;unfold eQ at this;simp[oX] at this;have h1:=this.2;omega
 simpa using this
def qJ (w:aI) (i:Nat):Bool:=((ab w.aw i).site==(i:Int))&&gQ (ab w.aw i)
def HA (w:aI) (k:Nat):(((ab w.aw k).site !=(k:Int))||!gQ (ab w.aw k))=!qJ w k:=by simp[qJ,bne]
def dA (a b:cw):cw:=if ck a b then b else a
def DL (a b x:cw):ck x (dA a b)=(ck x a||ck x b):=by
 obtain⟨t,s⟩:=a;obtain⟨t',s'⟩:=b;obtain⟨t2,s2⟩:=x;unfold dA;rw[Bool.eq_iff_iff];by_cases h:ck ⟨t,s⟩ ⟨t',s'⟩=true
 .rw[if_pos h];simp[ck] at h⊢;omega
 rw[if_neg h];simp[ck] at h⊢;omega
def pS {s:cw} (h:s=fK\/dr s=true):dA fK s=s:=by
 unfold dA;rcases h with rfl|h
 .simp
 rw[if_pos (O3 (tC h))]
def tD (s:cw):Prop:=s=fK\/dr s=true
def O9 {a b:cw} (ha:tD a) (hb:tD b):tD (dA a b):=by unfold dA;split<;>assumption
def l4 (out:List ao) (a:Answer):List ao:=iB out a.bm.aR
def fy (c:Call):List ao:=c.aA.foldl l4 []
def mH (out:List ao) (a:Answer):List ao:=if a.yes then eS (iB out a.bm.aR) a.bm.bh else out
def sg (out:List ao) (a:Answer):List ao:=if a.yes then eS out ⟨a.key,a.bm.ar⟩ else out
def gx (c:Call):List ao:=if c.end_=0 then c.ctx else if c.kind=1 then eS c.ctx ⟨ab c.keys 0,c.ar⟩ else c.aA.foldl mH c.ctx
def HB (c:Call):List ao:=if c.end_=0 then c.ctx else if c.kind=1 then eS c.ctx ⟨ab c.keys 0,c.ar⟩ else c.aA.foldl sg (iB c.ctx (fy c))
def qK {a:Answer} (h:dF a=true) (hy:a.yes=true):ef a.bm=true/\a.bm.key=a.key:=by
 unfold dF at h;rw[hy] at h;simpa using h
def yQ {a:Answer} (h:dF a=true) (hy:a.yes=false):a.bm=rT:=by
 unfold dF at h;rw[hy] at h;simpa[rU] using h
def tE:List Answer->Int->cw
 |[],_=>fK
 |a::r,key=>dA (if a.yes=true/\a.key=key then a.bm.ar else fK) (tE r key)
def pe (s:Server) (l:List aE) (i:Nat):Bool:=dU s (ab l i).key !=0
def sh (s:Server) (i:Nat):Bool:=decide (0<=placeOf s.an (ab s.aD i))
def Pa (x:cG):(!aS x.bf 0 9999||!aS x.dy 0 2||((x.dy !=0)&&decide (x.bf<1)))=!qG x:=by
 rw[<-Hv];by_cases h:aS x.bf 0 9999=true
 .have e:decide (x.bf<1)=(x.bf==0):=by
   simp[aS] at h;rw[Bool.eq_iff_iff];simp;omega
  rw[e]
 simp[h]
def YF (s:Server):yO s.an s.aD=de s.aD.length (sh s):=by
 unfold yO hasB;by_cases h:0<=dm (missing s.an) s.aD
 .obtain⟨k,hk,hm⟩:=Hu h;have:sh s k=false:=by
   simp only[missing,decide_eq_true_eq] at hm;simp only[sh,decide_eq_false_iff_not];omega
  rw[fN hk this];simp[h]
 have aT:=Bb (p:=missing s.an) (l:=s.aD) om;have:de s.aD.length (sh s)=true:=by
  rw[js];intro i hi;have:=aT i hi;simp only[missing,decide_eq_false_iff_not] at this;simp only[sh,decide_eq_true_eq];omega
 rw[this];simp[h]
def pT {l:List aE} {d:ao} (h:placeOf l d<0):∀x∈l,x.bh≠d:=λx hx he=>by
 obtain⟨k,hk,rfl⟩:=g7 hx;have:=Bb h k hk;simp[nh] at this;exact this he
def Pb {α:Type} [Inhabited α] {R:α->α->Prop} (tr:∀{a b d},R a b->R b d->R a d) {l:List α} (h:∀i,0<i->i<l.length->R (ab l (i-1)) (ab l i)):l.Pairwise R:=by
 rw[List.pairwise_iff_getElem];intro i j hi hj jA;have e:∀k (hk:k<l.length),l[k]=ab l k:=λk hk=>by simp[ab,hk]
 rw[e i hi,e j hj];obtain⟨n,rfl⟩:∃n,j=i+1+n:=⟨j-(i+1),by omega⟩;clear jA;induction n with
 |zero=>have:=h (i+1) om hj;simpa using this
 |succ n ih=>
  have h1:=ih om
  have h2:=h (i+1+(n+1)) om hj
  rw[show i+1+(n+1)-1=i+1+n from by omega] at h2
  exact tr h1 h2
def gy {l:List aE} (h:bY l=true):∀x∈l,ef x=true:=λx hx=>by
 obtain⟨k,hk,rfl⟩:=g7 hx;exact uP h hk
def gf (s:Server) (key:Int):Bool:=df key&&(dU s key==1)
def uR (s:Server) (m:az):Bool:=cO m.aU&&(bP m.aU !=bP s.site)&&decide (m.an.length=1)&&gf s (ab m.an 0).key&&(bP (ab m.an 0).ar.site !=bP s.site)
def l5 (s:Server) (slot:Int):Bool:=s.up&&aS slot 0 2&&((ab s.aF slot.toNat).dy==1)&&decide ((ab s.aF slot.toNat).bf<9999)
def pU (s:Server):Server:={s with up:=true}
def tF (calls:List Call) (aq:Int):Int:=calls.foldl (λn q=>if q.aq=aq then q.num else n) 0
def Pc (q:Call):
 Fn prog 175 [q.av] (AV.bool (pR q)):=by
 refine Fn.go 10 func175 ntmps175 (λW I a U=>?_);refine uE λI a w U=>?_;refine U.rt ?_;rfl
def uS (u v:aE):Bool:=!((u.key !=v.key)||([u.ar.time,u.ar.site] !=[v.ar.time,v.ar.site])||(u.val !=v.val)||(u.aq !=v.aq)||(u.call !=v.call)||((u.aR.length:Int) !=v.aR.length))
def DM (u v:aE) (i:Nat):Bool:=decide (ab u.aR i=ab v.aR i)
def Pd (d e:ao):([d.key,d.ar.time,d.ar.site] !=[e.key,e.ar.time,e.ar.site])=!decide (d=e):=by
 obtain⟨k,⟨t,s⟩⟩:=d;obtain⟨k',⟨t',s'⟩⟩:=e;rw[Bool.eq_iff_iff];simp;omega
def HC {u v:aE} (h:uS u v=true):u.aR.length=v.aR.length:=by
 simp only[uS,Bool.not_eq_true',Bool.or_eq_false_iff] at h;have:=h.2;simp at this;omega
def Pe {α:Type} [Inhabited α] {l:List α} {j k:Nat} (h:j<k):ab (l.take k) j=ab l j:=by
 unfold ab;simp[List.getD_eq_getElem?_getD,List.getElem?_take,h]
def yR {l:List Answer} (h:∀a∈l,dF a=true) (k:Nat):∀a∈l.take k,dF a=true:=λa ha=>h a (List.mem_of_mem_take ha)
def Pf {α:Type} [Inhabited α] {p:α->Bool} {l:List α} {k:Nat} (hk:l.length<=k) (h:∀i,i<k->p (ab l i)=false):l.find? p=none:=by
 rw[List.find?_eq_none];intro x hx;obtain⟨i,hi,rfl⟩:=g7 hx;rw[h i om];simp
def HD {a:Bool} {key:Int} (h:(a&&df key)=true):0<=cW key/\cW key<3:=qI (by rw[Bool.and_eq_true] at h;exact h.2)
def Bc {s:Server} (h:gQ s=true):s.aF.length=3/\bY s.an=true/\bY s.waits=true/\fY s.aD=true/\fY s.bj=true/\cO s.site=true:=by
 simp only[gQ,Bool.and_eq_true] at h;exact DI h.1.1.1.1
structure bH (s:Server):Prop where
 site:cO s.site=true
 aF:s.aF.length=3
 an:bY s.an=true
 waits:bY s.waits=true
 aD:fY s.aD=true
 bj:fY s.bj=true
 up:s.up=false->s.bj=[]
 bD:∀x∈s.aF,qG x=true
 here:∀v∈s.an,dU s v.key≠0
 pV:∀v∈s.waits,dU s v.key≠0
 pW:∀v∈s.waits,bP v.ar.site≠bP s.site
 apart:∀v∈s.waits,∀x∈s.an,x.bh≠v.bh
 pf:∀d∈s.aD,∃x∈s.an,x.bh=d
def YG {s:Server} {slot:Int} {y:cG} {key:Int} (h:cW key≠slot) (h0:0<=slot) (hk:df key=true):dU {s with aF:=s.aF.set slot.toNat y} key=dU s key:=by
 have hr:=qI hk;unfold dU ab;simp only[List.getD_eq_getElem?_getD];rw[List.getElem?_set_ne om]
def YH {s:Server} {slot:Int} {y:cG} {key:Int} (h:cW key=slot) (h0:0<=slot) (h3:slot<s.aF.length):dU {s with aF:=s.aF.set slot.toNat y} key=y.dy:=by
 unfold dU ab;simp only[List.getD_eq_getElem?_getD,h];rw[List.getElem?_set_self om];rfl
def bH.Pg {s:Server} (h:bH s) {slot:Int} {y:cG} (h0:0<=slot) (hy:qG y=true) (hv:∀v∈s.an,cW v.key=slot->y.dy≠0) (hw:∀v∈s.waits,cW v.key=slot->y.dy≠0) (h3:slot<3):bH {s with aF:=s.aF.set slot.toNat y}:=by
 have key:∀v:aE,ef v=true->dU s v.key≠0->(cW v.key=slot->y.dy≠0)->dU {s with aF:=s.aF.set slot.toNat y} v.key≠0:=λv YI h1 h2=>by
  by_cases U:cW v.key=slot
  .rw[YH U h0 (by rw[h.aF];omega)];exact h2 U
  rw[YG U h0 (qH YI)];exact h1
 refine⟨h.site,by show(s.aF.set _ _).length=3;rw[List.length_set];exact h.aF,h.an,h.waits,h.aD,h.bj,h.up,λx hx=>?_,λv iK=>key v (gy h.an v iK) (h.here v iK) (hv v iK),λv iK=>key v (gy h.waits v iK) (h.pV v iK) (hw v iK),h.pW,h.apart,h.pf⟩;rcases List.mem_or_eq_of_mem_set hx with hx|rfl
 .exact h.bD x hx
 exact hy
def wL {x:cG}:qG x=true↔0<=x.bf/\x.bf<=9999/\0<=x.dy/\x.dy<=2/\(x.dy≠0->x.bf≠0):=by
 unfold qG aS;simp only[Bool.and_eq_true,decide_eq_true_eq,Bool.not_eq_true',Bool.and_eq_false_iff,bne_eq_false_iff_eq,beq_eq_false_iff_ne];constructor
 .rintro⟨⟨⟨a,b⟩,d,e⟩,f⟩;exact⟨a,b,d,e,λh=>f.resolve_left h⟩
 rintro⟨a,b,d,e,f⟩;exact⟨⟨⟨a,b⟩,d,e⟩,by by_cases h:x.dy=0;exact .inl h;exact .inr (f h)⟩
def wM {s:Server} {key:Int} (h:gf s key=true):df key=true/\dU s key=1:=by
 unfold gf at h;rw[Bool.and_eq_true] at h;exact⟨h.1,by simpa using h.2⟩
def Bd {s:Server} {m:az} (h:uR s m=true):cO m.aU=true/\bP m.aU≠bP s.site/\m.an.length=1/\gf s (ab m.an 0).key=true/\bP (ab m.an 0).ar.site≠bP s.site:=by
 unfold uR at h;simp only[Bool.and_eq_true,decide_eq_true_eq,bne_iff_ne] at h;exact⟨h.1.1.1.1,h.1.1.1.2,h.1.1.2,h.1.2,h.2⟩
def Ph {s:Server} (h:bH s):bH (pU s):=⟨h.site,h.aF,h.an,h.waits,h.aD,h.bj,λe=>(by cases e),h.bD,h.here,h.pV,h.pW,h.apart,h.pf⟩
def uT {s:Server} {slot:Int} (h:l5 s slot=true):s.up=true/\0<=slot/\slot<=2/\(ab s.aF slot.toNat).dy=1/\(ab s.aF slot.toNat).bf<9999:=by
 unfold l5 aS at h;simp only[Bool.and_eq_true,decide_eq_true_eq] at h;exact⟨h.1.1.1,h.1.1.2.1,h.1.1.2.2,by simpa using h.1.2,h.2⟩
def YJ {a b d:Answer} (h:gR a b=true) (h':gR b d=true):gR a d=true:=by
 unfold gR at*;rw[decide_eq_true_eq] at*;omega
def Pj {α:Type} [Inhabited α] {l:List α} {i k:Nat} {a:α} (h:k<l.length) (aZ:k≠i):ab l k∈l.set i a:=by
 rw[List.mem_iff_getElem];refine⟨k,by simpa using h,?_⟩;rw[List.getElem_set_ne (λe=>aZ e.symm)];simp[ab,h]
def YK {s:cw} (h:dr s=true):dX s=false:=by
 have:=tC h;unfold dX;rw[Bool.and_eq_false_iff];left;simp;omega
def yS (s:Server) (key:Int) (hl:s.aF.length=3):
 Fn prog 205 [s.av,AV.int key] (AV.bool (gf s key)):=by
 refine Fn.go 13 func205 ntmps205 (λW I a U=>?_);refine aV λI a w U=>?_;refine U.o (.c1 (A6 ..)) λU=>?_;refine aV λI a w U=>?_;refine U.q .T (NU (λhg=>Hw s key hg hl) (ai .ag (ai .ag aC))) λU=>?_;refine tj ?_;rfl
def Pk (s:Server) (m:az):(!cO m.aU||(bP m.aU==bP s.site)||((m.an.length:Int) !=1)||!gf s (ab m.an 0).key||(bP (ab m.an 0).ar.site==bP s.site))=!uR s m:=by
 have e:((m.an.length:Int) !=1)=!decide (m.an.length=1):=by rw[Bool.eq_iff_iff];simp;omega
 unfold uR;rw[e];simp[bne]
def DN (s:Server) (m:az):(!s.up||!bM m||(m.to !=s.site))=!(s.up&&bM m&&(m.to==s.site)):=by simp[bne]
def DO (s:Server):(!gQ s||!s.up)=!(gQ s&&s.up):=by simp
def Pm (s:Server) (slot:Int):(!s.up||!aS slot 0 2||((ab s.aF slot.toNat).dy !=1)||decide (9999<=(ab s.aF slot.toNat).bf))=!l5 s slot:=by
 have e:decide (9999<=(ab s.aF slot.toNat).bf)=!decide ((ab s.aF slot.toNat).bf<9999):=by rw[Bool.eq_iff_iff];simp
 unfold l5;rw[e];simp[bne]
def Pn {s:Server} {slot:Int} (he:aS slot 0 2=true->(ab s.aF slot.toNat).bf<=9999):(!s.up||!aS slot 0 2||((ab s.aF slot.toNat).dy !=1)||((ab s.aF slot.toNat).bf==9999))=!l5 s slot:=by
 unfold l5;cases h:aS slot 0 2
 .simp
 have:=he h;have e:((ab s.aF slot.toNat).bf==9999)=!decide ((ab s.aF slot.toNat).bf<9999):=by rw[Bool.eq_iff_iff];simp;omega
 rw[e];simp[bne]
def Po {s:Server} {m:az} (ho:(cO m.aU&&(bP m.aU !=bP s.site))=true):(((m.an.length:Int) !=1)||!gf s (ab m.an 0).key||!(bP (ab m.an 0).ar.site !=bP s.site))=!uR s m:=by
 have e:((m.an.length:Int) !=1)=!decide (m.an.length=1):=by rw[Bool.eq_iff_iff];simp;omega
 unfold uR;rw[e,ho];simp
def Call.YL (q:Call) (g:Value):AV:=.agg [AV.int q.aq,AV.int q.num,AV.int q.kind,iz q.keys,AV.int q.val,bw q.ctx,AV.int q.bE,AV.int q.end_,AV.bool q.over,AV.int q.ar.time,AV.int q.ar.site,.val g,bw q.aO]
def aI.Pp (w:aI) (r:Value×Value×Value×Value):AV:=.agg [.int w.time,.val r.1,.val r.2.1,.val r.2.2.1,.val r.2.2.2]
def DP (m:az):((m.kind !=4)||(m.yes&&((m.an.length:Int) !=1||((ab m.an 0).key !=m.key))))=!decide (m.kind=4/\(m.yes=true->m.an.length=1/\(ab m.an 0).key=m.key)):=by
 have e:((m.an.length:Int) !=1)=!decide (m.an.length=1):=by rw[Bool.eq_iff_iff];simp;omega
 rw[e,Bool.eq_iff_iff];cases m.yes<;>simp<;>omega
def yT {m:az} {k:Int} {b:Bool} (h:(m.kind==k&&b)=false) (hk:m.kind=k):b=false:=by rw[hk,beq_self_eq_true,Bool.true_and] at h;exact h
def tG (l:List Call) (aq:Int):Nat->Int
 |0=>0
 |k+1=>if(ab l k).aq=aq then(ab l k).num else tG l aq k
def YM {l:List Call} {aq:Int} {k:Nat} (h:(ab l k).aq=aq):(ab l k).num=tG l aq (k+1):=by show _=(if _ then _ else _);rw[if_pos h]
def YN {l:List Call} {aq:Int} {k:Nat} (h:¬(ab l k).aq=aq):tG l aq k=tG l aq (k+1):=by show _=(if _ then _ else _);rw[if_neg h]
def YO {α:Type} [Inhabited α] {l:List α} {i:Nat}:l.set i (ab l i)=l:=by
 apply List.ext_getElem?;intro j;rw[List.getElem?_set];split
 .rename_i h;subst h;split
  .rename_i h;simp[ab,h]
  rename_i h;simp at h;simp[h]
 rfl
def YP {e:Ev} (h3:(!aS e.kind 6 9||!cO e.at_)=false):cO e.at_=true:=by simp at h3;exact h3.2
def YQ (l:List Call) (h:l.length<=1048576):
 iA prog 196 [fB l] 53 13 (l.map Call.cells):=by
 refine iA.intro 8 func196 rfl ntmps196 rfl aG (λW I a U=>?_);refine aH λI a w U=>?_;obtain⟨qa,ca,YR,U⟩:=U.XF (t:=3) rfl;refine U.o (XE kj .tt .c) λU=>?_;refine zt ?_;refine U.cd (λae=>?_) λae=>?_
 .refine ax λI a w U=>?_;have U:=U.fV (sz:=13) 53;have qj:l=[]:=List.map_eq_nil_iff.1 (YR (by simpa using ae));subst qj;exact U.qx (r:=2) 0 rfl rfl rfl rfl
 refine zt ?_;refine U.l0 λb5 I a w U=>?_;refine U.m λU=>?_;refine U.ap 0 λv7 a w U=>?_;refine ax λI a w U=>?_;exact U.qx (r:=2) 0 rfl rfl rfl rfl
def Pq {x:aI} {e:Ev} (h:((ab x.aw e.at_.toNat).up==(e.kind==7))=false) (h7:¬e.kind=7):(ab x.aw e.at_.toNat).up=true:=by
 rw[show(e.kind==7)=false by simpa using h7] at h;simpa using h
def sv (w:aI) (i:Nat):Server:=ab w.aw i
def cF (w:aI) (σ:Nat) (v:aE):Prop:=∃i,i<4/\i/2=σ/\v∈(sv w i).an
def mI (w:aI) (σ:Nat) (v:aE):Prop:=∃i,i<4/\i/2=σ/\(v∈(sv w i).an\/v∈(sv w i).waits)
def vk (v:aE):Nat:=(cW v.key).toNat
def ep (w:aI) (i k:Nat):Int:=(ab (sv w i).aF k).bf
def cF.cont {w:aI} {σ:Nat} {v:aE} (h:cF w σ v):mI w σ v:=let⟨i,h1,h2,h3⟩:=h;⟨i,h1,h2,.inl h3⟩
def cF.here {w:aI} {i:Nat} {v:aE} (hi:i<4) (h:v∈(sv w i).an):cF w (i/2) v:=⟨i,hi,rfl,h⟩
def jw {s:Server} (h:bH s) {v:aE} (hv:v∈s.an\/v∈s.waits):ef v=true:=by
 rcases hv with hv|hv
 .exact gy h.an v hv
 exact gy h.waits v hv
def Pr {key:Int} (h:df key=true):0<=cW key/\cW key<=2:=by
 have:=Hz.1 h;unfold cW;rw[if_pos h];omega
def HE:∀{l:List ao} {d x:ao},x∈eS l d->x=d\/x∈l
 |[],d,x,h=>by simpa[eS] using h
 |e::r,d,x,h=>by
  unfold eS at h;split at h
  .split at h
   .rcases List.mem_cons.1 h with h|h
    .exact .inl h
    exact .inr (List.mem_cons_of_mem _ h)
   exact .inr h
  split at h
  .rcases List.mem_cons.1 h with h|h
   .exact .inl h
   exact .inr h
  rcases List.mem_cons.1 h with h|h
  .exact .inr (by rw[h];exact List.mem_cons_self ..)
  rcases HE h with h|h
  .exact .inl h
  exact .inr (List.mem_cons_of_mem _ h)
def Ps:∀{b a:List ao} {x:ao},x∈iB a b->x∈a\/x∈b
 |[],a,x,h=>.inl h
 |d::r,a,x,h=>by
  rcases Ps (b:=r) (a:=eS a d) h with h|h
  .rcases HE h with h|h
   .exact .inr (by rw[h];exact List.mem_cons_self ..)
   exact .inl h
  exact .inr (List.mem_cons_of_mem _ h)
def HF {α:Type} [Inhabited α] {l m:List α} {i:Nat} (h:i<l.length):ab (l++m) i=ab l i:=by
 unfold ab;simp[List.getD_eq_getElem?_getD,List.getElem?_append_left h]
def si (v:aE):Prop:=v.aR.length<=6
end Go.Proofs.YtdanidpleofjgaaGreat
