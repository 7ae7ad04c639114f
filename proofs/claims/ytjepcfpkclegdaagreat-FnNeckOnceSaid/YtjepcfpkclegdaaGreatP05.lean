/- Part 5: contracts of functions, plain facts. -/
import Derived.Test.YtjepcfpkclegdaaGreatP04
set_option linter.unusedVariables false
set_option linter.unusedSimpArgs false
set_option maxRecDepth 100000
set_option maxHeartbeats 4000000
namespace Go.Proofs.YtjepcfpkclegdaaGreat
open Go Go.RowKit
attribute [local irreducible] wpList Code.wp Ok
theorem jM (n a b:Int):
 Fn Tryz.prog 113 [AV.int n,AV.int a,AV.int b] (AV.bool (aQ n a b)):=by
 refine Fn.go 15 Tryz.func113 Tryz.ntmps113 (λW I a U=>?_)
 refine wu λI a w U=>?_
 refine U.rt ?_
 exact bG (by simp only[aQ,ge_iff_le])
theorem rP (n:Int):
 Fn Tryz.prog 112 [AV.int n] (AV.bool (cL n)):=by
 refine Fn.go 5 Tryz.func112 Tryz.ntmps112 (λW I a U=>?_)
 refine aF λI a w U=>?_
 refine U.o (.cl (jM ..)) λU=>?_
 refine ai λI a w U=>?_
 refine U.rt ?_
 rfl
theorem uU (n:Int):
 Fn Tryz.prog 167 [AV.int n] (AV.bool (dp n)):=by
 refine Fn.go 5 Tryz.func167 Tryz.ntmps167 (λW I a U=>?_)
 refine aF λI a w U=>?_
 refine U.o (.cl (jM ..)) λU=>?_
 refine ai λI a w U=>?_
 refine U.rt ?_
 rfl
theorem wA (s:cw):
 Fn Tryz.prog 169 [s.av] (AV.bool (db s)):=by
 refine Fn.go 11 Tryz.func169 Tryz.ntmps169 (λW I a U=>?_)
 refine bt λI a w U=>?_
 refine U.o (.cl (jM ..)) λU=>?_
 refine bk λI a w U=>?_
 refine U.q .T (.cl (rP ..)) λU=>?_
 refine aA λI a w U=>?_
 refine U.rt ?_
 rfl
theorem yd (s t:cw):
 Fn Tryz.prog 202 [s.av,t.av] (AV.bool (bP s t)):=by
 refine Fn.go 24 Tryz.func202 Tryz.ntmps202 (λW I a U=>?_)
 refine Co λI a w U=>?_
 refine U.rt ?_
 rfl
def k0 (l:List au) (k:Nat):Int:=if k=0 then-1 else(ab l (k-1)).key
theorem Mv (l:List au) (k:Nat):k0 l (k+1)=(ab l k).key:=by simp[k0]
theorem Mw {l:List au} {k:Nat} (hk:k<l.length):dI (k0 l k) (l.drop k)=(aQ (ab l k).key (k0 l k+1) 5&&db (ab l k).aq&&dI (k0 l (k+1)) (l.drop (k+1))):=by
 rw[mr hk,Mv];rfl
theorem Mx {l:List au} {k:Nat} (hp:-1<=k0 l k):(!dp (ab l k).key||!db (ab l k).aq||(decide (0<(k:Int))&&decide ((ab l k).key<=(ab l ((k:Int)-1).toNat).key)))=!(aQ (ab l k).key (k0 l k+1) 5&&db (ab l k).aq):=by
 rw[show((k:Int)-1).toNat=k-1 from by omega]
 rcases Nat.eq_zero_or_pos k with rfl|h
 ·simp[k0,dp,aQ]
 ·have h0:k≠0:=by omega
  have Gb:-1<=(ab l (k-1)).key:=by simpa[k0,h0] using hp
  have h1:(0<(k:Int)):=by omega
  simp only[k0,if_neg h0,dp,aQ]
  generalize (ab l (k-1)).key=p at*
  generalize (ab l k).key=q at*
  rw[Bool.eq_iff_iff]
  cases db (ab l k).aq<;>simp[h1]<;>omega
theorem Wp {l:List au} {k:Nat} (hk:k<l.length) (hd:bN l=dI (k0 l k) (l.drop k)) (hp:-1<=k0 l k) (h:(aQ (ab l k).key (k0 l k+1) 5&&db (ab l k).aq)=true):
 k+1<=l.length/\bN l=dI (k0 l (k+1)) (l.drop (k+1))/\-1<=k0 l (k+1):=by
 refine⟨hk,by rw[hd,Mw hk,h,Bool.true_and],?_⟩
 rw[Mv]
 simp[aQ] at h;omega
theorem Wq {l:List au} {k:Nat} (hk:k<l.length) (hd:bN l=dI (k0 l k) (l.drop k)) (h:(aQ (ab l k).key (k0 l k+1) 5&&db (ab l k).aq)=false):false=bN l:=by
 rw[hd,Mw hk,h,Bool.false_and]
theorem rQ (l:List au):
 Fn Tryz.prog 117 [bm l] (AV.bool (bN l)):=by
 refine Fn.go 44 Tryz.func117 Tryz.ntmps117 (λW I a U=>?_)
 have hle:=U.cW (t:=0) rfl
 refine aA λI a w U=>?_
 refine St.lo (σ:=Nat) (run 42 2 []) ⟨λk=>[(3,AV.int k)],λk=>[],λk=>k<=l.length/\bN l=dI (k0 l k) (l.drop k)/\-1<=k0 l k⟩ (λk=>l.length-k) 0 U ?aJ ?aK
 case aJ=>exact⟨by simp,rfl,by simp[k0]⟩
 case aK=>
  rintro k I a w aj U
  obtain⟨hk,hd,hp⟩:=aj
  refine aU λI a w U=>?_
  refine cz (λae=>?_) λae=>?_
  ·refine zt ?_
   refine U.dk ?_
   refine fi ?_
   refine .o (.c1 (uU ..)) ?_
   refine lF ?_
   refine .q .F (.cl (wA ..)) ?_
   refine lG ?_
   refine dq ?_
   refine .nil ?_
   intro I a w U
   refine aY ?_
   refine U.cd (λah=>?_) λah=>?_
   ·rw[Mx hp] at ah;simp only[Bool.not_eq_true'] at ah
    refine ai λI a w U=>?_
    refine U.rt ?_
    exact bG (Wq ae hd ah)
   ·rw[Mx hp] at ah;simp only[Bool.not_eq_false'] at ah
    refine aI λI a w U=>?_
    exact U.ag (k+1) (Wp ae hd hp ah)
  ·refine zt ?_
   refine ai λI a w U=>?_
   refine U.rt ?_
   exact bG (by rw[hd,List.drop_eq_nil_of_le (by omega)];rfl)
theorem nt {b:Bool} (h:(!b)=true):b=false:=by simpa using h
theorem nf {b:Bool} (h:(!b)=false):b=true:=by simpa using h
theorem Cz (l:List au) (k:Nat) (t:Int):decide (t<=(ab l k).aq.time)=!decide ((ab l k).aq.time<t):=by
 rw[Bool.eq_iff_iff];simp
def Gd (v:aB):Bool:=dp v.key&&db v.aq&&aQ v.val 0 9999&&ff v.an&&aQ v.call 1 99&&bN v.aO
theorem CA (v:aB):(!dp v.key||!db v.aq||!aQ v.val 0 9999||!ff v.an||!aQ v.call 1 99||!bN v.aO)=!Gd v:=by simp[Gd]
theorem ye (v:aB):dM v=(Gd v&&Fo v.aq.time v.aO):=rfl
theorem Ge (v:aB):
 Fn Tryz.prog 203 [v.av] (AV.bool (dM v)):=by
 refine Fn.go 56 Tryz.func203 Tryz.ntmps203 (λW I a U=>?_)
 have Gf:v.aO.length<=9223372036854775807:=by
  obtain⟨cs,_,hc⟩:=U.env 0 _ rfl
  obtain⟨u,_,hu,_⟩:=hc.get (i:=6) rfl
  exact zO hu
 refine bt λI a w U=>?_
 refine U.o (.c1 (uU ..)) λU=>?_
 refine bt λI a w U=>?_
 refine U.q .F (.cl (wA ..)) λU=>?_
 refine bM λI a w U=>?_
 refine U.q .F (.cl (jM ..)) λU=>?_
 refine bM λI a w U=>?_
 refine U.q .F (.cl (jM ..)) λU=>?_
 refine bM λI a w U=>?_
 refine U.q .F (.cl (jM ..)) λU=>?_
 refine bM λI a w U=>?_
 refine U.q .F (.cl (rQ ..)) λU=>?_
 refine aA λI a w U=>?_
 refine U.cd (λae=>?_) λae=>?_
 ·rw[show aQ v.an 0 1=ff v.an from rfl,CA v] at ae;replace ae:=nt ae
  refine ai λI a w U=>?_
  refine U.rt ?_
  exact bG (by rw[ye,ae];rfl)
 ·rw[show aQ v.an 0 1=ff v.an from rfl,CA v] at ae;replace ae:=nf ae
  refine ai λI a w U=>?_
  refine St.lo (σ:=Nat) (run 2 2 (run 18 38 [])) ⟨λk=>[(3,AV.int k)],λk=>[],λk=>k<=v.aO.length/\∀i,i<k->(λi=>decide ((ab v.aO i).aq.time<v.aq.time)) i=true⟩ (λk=>v.aO.length-k) 0 U ?aJ ?aK
  case aJ=>exact⟨by simp,λi hi=>by omega⟩
  case aK=>
   rintro k I a w aj U
   obtain⟨hk,aN⟩:=aj
   have hle:v.aO.length<=9223372036854775807:=Gf
   refine ck λI a w U=>?_
   refine cz (λah=>?_) λah=>?_
   ·refine ai λI a w U=>?_
    refine U.cd (λal=>?_) λal=>?_
    ·rw[Cz] at al;replace al:=nt al
     refine ai λI a w U=>?_
     refine U.rt ?_
     exact bG (by rw[ye,ae];exact(eB (f:=(λi=>decide ((ab v.aO i).aq.time<v.aq.time))) ah al).symm)
    ·rw[Cz] at al;replace al:=nf al
     refine aI λI a w U=>?_
     exact U.ag (k+1) (⟨by omega,fg aN al⟩)
   ·refine zt ?_
    refine ai λI a w U=>?_
    refine U.rt ?_
    exact bG (by rw[ye,ae];exact(eP aN (by omega)).symm)
theorem My (a b:aB):
 Fn Tryz.prog 204 [a.av,b.av] (AV.bool (gy a b)):=by
 refine Fn.go 24 Tryz.func204 Tryz.ntmps204 (λW I a U=>?_)
 refine LV λI a w U=>?_
 refine U.q .T2 (.cl (yd ..)) λU=>?_
 refine aI λI a w U=>?_
 refine U.rt ?_
 rfl
theorem uV (n:Int):
 Fn Tryz.prog 219 [AV.int n] (AV.int (cQ n)):=by
 refine Fn.go 9 Tryz.func219 Tryz.ntmps219 (λW I a U=>?_)
 refine aF λI a w U=>?_
 refine U.o (.c1 (uU ..)) λU=>?_
 refine ai λI a w U=>?_
 refine cz (λae=>?_) λae=>?_
 ·refine ai λI a w U=>?_
  refine U.rt ?_
  exact fD (by simp[cQ,ae])
 ·refine bH λI a w U=>?_
  refine U.o (kf .tt .c (λ_=>by simp[dp,aQ] at ae;omega)) λU=>?_
  refine U.o (tf .tt .c (λ_=>by simp[dp,aQ] at ae;omega)) λU=>?_
  refine ai λI a w U=>?_
  refine U.rt ?_
  exact fD (by simp[cQ,ae])
def cM {α:Type} (p:α->Bool) (l:List α):Int:=match l.findIdx? p with
 |some k=>k
 |none=>-1
theorem nA {α:Type} [Inhabited α] {p:α->Bool} {l:List α} {k:Nat} (hk:k<l.length) (h:∀i,i<k->p (ab l i)=false) (hp:p (ab l k)=true):cM p l=k:=by
 have:l.findIdx? p=some k:=by
  rw[List.findIdx?_eq_some_iff_getElem]
  refine⟨hk,by simpa[ab,hk] using hp,λj hj=>?_⟩
  have:=h j hj
  have lY:j<l.length:=by omega
  simpa[ab,lY] using this
 unfold cM;rw[this]
theorem mR {α:Type} [Inhabited α] {p:α->Bool} {l:List α} {k:Nat} (hk:l.length<=k) (h:∀i,i<k->p (ab l i)=false):cM p l=-1:=by
 have:l.findIdx? p=none:=by
  rw[List.findIdx?_eq_none_iff]
  intro x hx
  obtain⟨i,hi,rfl⟩:=List.getElem_of_mem hx
  have:=h i (by omega)
  simpa[ab,hi] using this
 unfold cM;rw[this]
def l6 (d:au) (v:aB):Bool:=decide (v.aT=d)
def placeOf (l:List aB) (d:au):Int:=cM (l6 d) l
def dX (s:Server) (key:Int):Int:=(ab s.aG (cQ key).toNat).dH
theorem uW {l:List aB} (h:cn l=true) {k:Nat} (hk:k<l.length):dM (ab l k)=true:=by
 unfold cn at h
 rw[Bool.and_eq_true,gx] at h
 have:=h.2 k hk
 unfold eQ at this
 rw[Bool.and_eq_true] at this
 exact this.1
def oZ (a b:Int):Bool:=decide (a<b)
def lI (l:List Int):Bool:=cF l.length (eQ dp oZ l)
def rR:aB:=⟨0,⟨0,0⟩,0,0,0,[]⟩
def pD (v u:aB):Bool:=decide (v=u)
theorem Mz (l:List Int) (k:Nat):(!dp (ab l k)||(decide (0<(k:Int))&&decide (ab l k<=ab l ((k:Int)-1).toNat)))=!eQ dp oZ l k:=by
 rw[<-uK]
 have e:decide (ab l k<=ab l ((k:Int)-1).toNat)=!oZ (ab l ((k:Int)-1).toNat) (ab l k):=by rw[Bool.eq_iff_iff];simp[oZ]
 rw[e]
def wB (a:Answer):Bool:=if a.yes then dM a.be&&(a.be.key==a.key) else dp a.key&&pD a.be rR
def wC (c:Call):Bool:=!(decide ((c.keys.length:Int)<1)||decide (3<(c.keys.length:Int))||((c.kind==1)&&((c.keys.length:Int) !=1)))&&lI c.keys
theorem MA:∀(l:List au) (last:Int),dI last l=true->last<=5->(l.length:Int)<=5-last
 |[],last,_,h=>by simp;omega
 |d::r,last,h,hl=>by
  simp only[dI,Bool.and_eq_true,aQ,decide_eq_true_eq] at h
  have:=MA r d.key h.2 (by omega)
  simp;omega
theorem Wr {l:List au} (h:bN l=true):l.length<=6:=by
 have:=MA l (-1) h (by omega);omega
def kz (l:List aB) (d:au):Option aB:=if cn l=true/\0<=placeOf l d then some (ab l (placeOf l d).toNat) else none
theorem CB (key:Int) (st:cw) (v:aB):((v.key==key)&&([v.aq.time,v.aq.site]==[st.time,st.site]))=l6 ⟨key,st⟩ v:=by
 obtain⟨t,s⟩:=st
 obtain⟨vk,⟨vt,vs⟩,_,_,_,_⟩:=v
 rw[Bool.eq_iff_iff];simp[l6,aB.aT]
theorem Ws {l:List aB} {d:au} {k:Nat} (hc:cn l=true) (hk:k<l.length) (h:∀i,i<k->l6 d (ab l i)=false) (hp:l6 d (ab l k)=true):kz l d=some (ab l k):=by
 have e:placeOf l d=k:=nA hk h hp
 unfold kz;rw[e,if_pos ⟨hc,by omega⟩];rfl
theorem Wt {l:List aB} {d:au} {k:Nat} (hk:l.length<=k) (h:∀i,i<k->l6 d (ab l i)=false):kz l d=none:=by
 have e:placeOf l d=-1:=mR hk h
 unfold kz;rw[e,if_neg (by omega)]
theorem Wu {l:List aB} {d:au} (h:cn l=false):kz l d=none:=by
 unfold kz;rw[if_neg (by rw[h];simp)]
theorem pE (v:aB) (h:v.aO.length<=1048576):
 Fn Tryz.prog 172 [v.av] (v.av):=by
 refine Fn.go 9 Tryz.func172 Tryz.ntmps172 (λW I a U=>?_)
 refine sr<|U.box rfl .tt λb1 I a w U=>U.alloc rfl bA dE λb2 I a w U=>?_
 refine zt ?_
 refine U.l0 λb3 I a w U=>?_
 refine aF λI a w U=>?_
 refine U.ap 2 λv6 a w U=>?_
 obtain⟨I,U⟩:=U.fr 2 6
 refine aU λI a w U=>?_
 refine U.ret rfl (.cons (.sx 1) aX.nil) ?_
 rfl
theorem CC (s:cw):([s.time,s.site]==[0,0])=dL s:=by
 rw[Bool.eq_iff_iff];simp[dL]
theorem Wv (x:Answer) (h:x.yes=false):(dp x.key&&(x.be.key==0)&&(x.be.val==0)&&(x.be.an==0)&&(x.be.call==0)&&dL x.be.aq&&((x.be.aO.length:Int)==0))=wB x:=by
 unfold wB
 rw[h]
 obtain⟨k,y,⟨vk,⟨t,s⟩,vv,vc,vl,vd⟩⟩:=x
 simp only[pD,rR,dL]
 rw[Bool.eq_iff_iff]
 simp
 constructor
 ·rintro⟨⟨⟨⟨⟨⟨h1,h2⟩,h3⟩,h4⟩,h5⟩,h6⟩,h7⟩
  exact⟨h1,h2,h6,h3,h4,h5,h7⟩
 ·rintro⟨h1,h2,h6,h3,h4,h5,h7⟩
  exact⟨⟨⟨⟨⟨⟨h1,h2⟩,h3⟩,h4⟩,h5⟩,h6⟩,h7⟩
theorem Ww (q:Call):
 Fn Tryz.prog 198 [q.av] (AV.bool (wC q)):=by
 refine Fn.go 57 Tryz.func198 Tryz.ntmps198 (λW I a U=>?_)
 have lens:q.keys.length<=9223372036854775807/\q.az.length<=9223372036854775807/\q.aP.length<=9223372036854775807:=⟨U.ln 0 3,U.ln 0 11,U.ln 0 12⟩
 refine Co λI a w U=>?_
 refine U.cd (λae=>?_) λae=>?_
 ·refine ai λI a w U=>?_
  refine U.rt ?_
  exact bG (by unfold wC;rw[ae];rfl)
 ·refine ai λI a w U=>?_
  refine St.lo (σ:=Nat) (run 2 2 (run 32 25 [])) ⟨λk=>[(3,AV.int k)],λk=>[],λk=>k<=q.keys.length/\∀i,i<k->(eQ dp oZ q.keys) i=true⟩ (λk=>q.keys.length-k) 0 U ?aJ ?aK
  case aJ=>exact⟨Nat.zero_le _,λi hi=>by omega⟩
  case aK=>
   rintro k I a w aj U
   obtain⟨o1,aN⟩:=aj
   refine ck λI a w U=>?_
   refine cz (λah=>?_) λah=>?_
   ·refine zt ?_
    refine U.dk ?_
    refine fi ?_
    refine .o (.c1 (uU ..)) ?_
    refine lG ?_
    refine cD ?_
    refine .nil ?_
    intro I a w U
    refine aY ?_
    refine U.cd (λal=>?_) λal=>?_
    ·rw[Mz] at al;replace al:=nt al
     refine ai λI a w U=>?_
     refine U.rt ?_
     exact bG (by unfold wC lI;rw[eB (f:=eQ dp oZ q.keys) ah al];simp)
    ·rw[Mz] at al;replace al:=nf al
     refine aI λI a w U=>?_
     exact U.ag (k+1) (⟨by omega,fg aN al⟩)
   ·refine zt ?_
    refine ai λI a w U=>?_
    refine U.rt ?_
    exact bG (by unfold wC lI;rw[ae,eP aN (by omega)];rfl)
end Go.Proofs.YtjepcfpkclegdaaGreat
