/- Part 22: contracts of functions, plain facts. -/
import Derived.Test.YtldbakcpcfdlaaaGreatP15
import Derived.Test.YtldbakcpcfdlaaaGreatP16
import Derived.Test.YtldbakcpcfdlaaaGreatP17
import Derived.Test.YtldbakcpcfdlaaaGreatP18
set_option linter.all false
set_option maxRecDepth 100000
set_option maxHeartbeats 4000000
namespace Go.Proofs.YtldbakcpcfdlaaaGreat
open Go Go.RowKit Tryz
attribute [local irreducible] wpList Code.wp Ok
def MJ (m:az) (h1:gV m.aT) (h2:gV m.to):
 Fn prog 69 [m.av] (AV.bool (bK m)):=by
 refine Fn.go 66 func69 ntmps69 (λW I a U=>?_);refine bx λI a w U=>?_;refine U.o (.cl (jI ..)) λU=>?_;refine bk λI a w U=>?_;refine U.q .T (.cl (Uq _ h1)) λU=>?_;refine bx λI a w U=>?_;refine U.q .T (.cl (Uq _ h2)) λU=>?_;refine bx λI a w U=>?_;refine U.q .T (.cl (jI ..)) λU=>?_;refine bx λI a w U=>?_;refine U.q .T (.cl (CG ..)) λU=>?_;refine bx λI a w U=>?_;refine U.q .T (.cl (Tk ..)) λU=>?_;refine bx λI a w U=>?_;refine U.q .T (.cl (jI ..)) λU=>?_;refine bx λI a w U=>?_;refine U.q .T (.cl (Dm ..)) λU=>?_;refine bx λI a w U=>?_;refine U.q .T (.cl (jI ..)) λU=>?_;refine bx λI a w U=>?_;refine U.q .T (.cl (jI ..)) λU=>?_;refine bx λI a w U=>?_;refine U.q .T (.cl (Bc ..)) λU=>?_;refine bx λI a w U=>?_;refine U.q .T (.cl (Bc ..)) λU=>?_;refine bx λI a w U=>?_;refine U.q .T (.cl (K6 ..)) λU=>?_;refine c8 ?_;rfl
def zl (s:Server):
 Fn prog 66 [s.av] (AV.bool (iB s)):=by
 refine Fn.go 127 func66 ntmps66 (λW I a U=>?_);have lens:s.aD.length<=9223372036854775807/\s.an.length<=9223372036854775807/\s.waits.length<=9223372036854775807/\s.aE.length<=9223372036854775807:=⟨U.ln 0 2,U.ln 0 3,U.ln 0 4,U.ln 0 5⟩;refine bx λI a w U=>?_;refine U.o (.c1 (vE ..)) λU=>?_;refine wL λI a w U=>?_;refine U.q .F (.cl (Bc ..)) λU=>?_;refine bY λI a w U=>?_;refine U.q .F (.cl (Bc ..)) λU=>?_;refine bY λI a w U=>?_;refine U.q .F (.cl (K6 ..)) λU=>?_;refine bY λI a w U=>?_;refine U.q .F (.cl (K6 ..)) λU=>?_;refine Fs λI a w U=>?_;refine U.cd (λae=>?_) λae=>?_
 .rw[Gb] at ae;replace ae:=nt ae;refine bf ?_;exact bB (by unfold iB;rw[ae];rfl)
 rw[Gb] at ae;replace ae:=nf ae;obtain⟨DE,y8,L6,hco,A8,L7⟩:=CI ae;refine aX λI a w U=>?_;refine St.lo (σ:=Nat) (2::(4::(run 25 57 []))) ⟨λk1=>[(57,AV.int k1)],λk1=>[],λk1=>k1<=s.aD.length/\∀i,i<k1->(tV s) i=true⟩ (λk1=>s.aD.length-k1) 0 U ?aI ?bF;case aI=>exact⟨Nat.zero_le _,λi hi=>by omega⟩
 rintro k1 I a w ao U;obtain⟨afD,y9⟩:=ao;refine aB λI a w U=>?_;refine cz (λah=>?_) λah=>?_
 .refine aG λI a w U=>?_;refine U.alloc rfl fh oF λb4 I a w U=>?_;refine aB λI a w U=>?_;obtain⟨I,U⟩:=U.fb 0 4;refine aG λI a w U=>?_;refine U.o (.cl (jI ..)) λU=>?_;refine bx λI a w U=>?_;refine U.q .F (.cl (jI ..)) λU=>?_;refine yg λI a w U=>?_;refine U.cd (λaq=>?_) λaq=>?_
  .rw[KO] at aq;replace aq:=nt aq;refine bf ?_;exact bB (by unfold iB;rw[ae,eI (f:=tV s) ah aq];simp)
  rw[KO] at aq;replace aq:=nf aq;refine aF λI a w U=>?_;have U:=U.drop 0;exact U.ag (k1+1) (⟨by omega,eY y9 aq⟩)
 refine zt ?_;refine aX λI a w U=>?_;refine St.lo (σ:=Nat) (2::(6::(run 10 85 []))) ⟨λk2=>[(85,AV.int k2)],λk2=>[],λk2=>k2<=s.an.length/\∀i,i<k2->(vn s) i=true⟩ (λk2=>s.an.length-k2) 0 U ?eo ?jK;case eo=>exact⟨Nat.zero_le _,λi hi=>by omega⟩
 rintro k2 I a w ao U;obtain⟨xu,iZ⟩:=ao;refine aB λI a w U=>?_;refine cz (λaK=>?_) λaK=>?_
 .refine aG λI a w U=>?_;refine U.alloc rfl bL ee λb6 I a w U=>?_;refine aB λI a w U=>?_;obtain⟨I,U⟩:=U.fb 0 6;refine bk λI a w U=>?_;refine U.o (.c2 (Ka _ _ (si (wU y8 aK)) DE)) λU=>?_;refine aB λI a w U=>?_;refine U.cd (λaS=>?_) λaS=>?_
  .rw[So] at aS;replace aS:=nt aS;refine bf ?_;exact bB (by unfold iB;rw[ae,eX y9 om,eI (f:=vn s) aK aS];simp)
  rw[So] at aS;replace aS:=nf aS;refine aF λI a w U=>?_;have U:=U.drop 0;exact U.ag (k2+1) (⟨by omega,eY iZ aS⟩)
 refine zt ?_;refine aX λI a w U=>?_;refine St.lo (σ:=Nat) (2::(8::(run 24 98 []))) ⟨λk3=>[(98,AV.int k3)],λk3=>[],λk3=>k3<=s.waits.length/\∀i,i<k3->(tW s) i=true⟩ (λk3=>s.waits.length-k3) 0 U ?iD ?od;case iD=>exact⟨Nat.zero_le _,λi hi=>by omega⟩
 rintro k3 I a w ao U;obtain⟨GK,ov⟩:=ao;refine aB λI a w U=>?_;refine cz (λbA=>?_) λbA=>?_
 .refine aG λI a w U=>?_;refine U.alloc rfl bL ee λb8 I a w U=>?_;refine aB λI a w U=>?_;obtain⟨I,U⟩:=U.fb 0 8;refine U.dk ?_;refine dO ?_;refine .o (.c2 (Ka _ _ (si (wU L6 bA)) DE)) ?_;refine eb ?_;refine .q .F (.cl (K8 ..)) ?_;refine iA ?_;refine .q .F (.cl (nA ..)) ?_;refine .q .F (.cl (oH ..)) ?_;refine cG ?_;refine .nil ?_;intro I a w U;refine bm ?_;refine U.cd (λbt=>?_) λbt=>?_
  .rw[Sp] at bt;replace bt:=nt bt;refine bf ?_;exact bB (by unfold iB;rw[ae,eX y9 om,eX iZ om,eI (f:=tW s) bA bt];simp)
  rw[Sp] at bt;replace bt:=nf bt;refine aF λI a w U=>?_;have U:=U.drop 0;exact U.ag (k3+1) (⟨by omega,eY ov bt⟩)
 refine zt ?_;refine bx λI a w U=>?_;refine U.o (.cl (L4 ..)) λU=>?_;refine bf ?_;exact bB (by unfold iB;rw[ae,eX y9 om,eX iZ om,eX ov om];simp)
def MK {c:Call} (hk:jZ c.keys=true) (h:o5 c=true):c.au.length<=c.keys.length:=
 F1 (f:=Answer.key) (Ur hk) (SP λi h0 hi=>by
  have:=(gF.1 h) i hi;unfold qW fO at this;simp[gZ] at this;have h1:=this.1.2;omega) λa ha=>by
  obtain⟨k,fV,rfl⟩:=fS ha;exact lR.1 (Mq h fV).2
def zm (c:Call) (time:Int):gf c time=(sJ c time&&Ay c&&cI c.au.length (xv c)&&FV c&&cI c.aL.length (xa c)&&FW c time):=by
 have e0:aJ c.aj 0 1=eF c.aj:=rfl;cases eR:fU c
 .have h1:gf c time=false:=by simp[gf,nL,eR]
  have h2:sJ c time=false:=by
   rw[<-To] at eR;unfold sJ;cases h3:aJ c.kind 1 2
   .simp
   rw[h3,Bool.true_and] at eR;rw[eR];simp
  rw[h1,h2];simp
 have nN:jZ c.keys=true:=by unfold fU at eR;rw[Bool.and_eq_true] at eR;exact eR.1
 have kY:=eR;rw[<-To,Bool.and_eq_true] at kY;have G4:c.kind=1\/c.kind=2:=by have:=kY.1;simp[aJ] at this;omega
 have e1:cI c.au.length (xv c)=o5 c:=Ac rfl λi _=>af4 nN i;rw[e1];cases hg:o5 c
 .simp[gf,nL,qX,hg]
 have hle:=MK nN hg;cases eW:bT c.aL
 .simp[gf,nL,sJ,eW]
 have e2:cI c.aL.length (xa c)=cI c.aL.length (sF c):=Ac rfl λi hi=>af5 hg eW hi;rw[e2];unfold gf nL qX AN oX sJ Ay FV FW;rw[e0,eR,kY.1,kY.2,hg,eW];generalize eF c.aj=b1;generalize aJ c.num 1 99=b2;generalize bT c.ctx=b4;generalize aJ c.bH 1 time=b5;generalize cI c.aL.length (sF c)=b6;generalize aJ c.end_ (c.bH+1) time=b7;have e3:(decide (0<c.val)&&aJ c.val 0 9999)=((c.val !=0)&&aJ c.val 0 9999):=by
  rw[Bool.eq_iff_iff];simp[aJ];omega
 have e4:qR c=decide (c.au.length=c.keys.length):=R5 _ _;have e5:((c.aL.length:Int)==0)=decide (c.aL.length=0):=acz _;have e6:decide (0<(c.aL.length:Int))=!decide (c.aL.length=0):=KP _;have e7:decide ((c.au.length:Int)<c.keys.length)=!decide (c.au.length=c.keys.length):=acA hle;have e8:decide ((c.keys.length:Int)<c.au.length)=false:=by simp;omega
 have e9:((c.au.length:Int)==c.keys.length)=decide (c.au.length=c.keys.length):=R5 _ _;have e10:decide (0<(c.au.length:Int)+c.aL.length)=!(decide (c.au.length=0)&&decide (c.aL.length=0)):=SQ _ _;rw[e4,e5,e6,e7,e8,e9,e10];have e11:mq c.ar=(dw c.ar||dB c.ar):=rfl;rw[e11];cases hv:aJ c.val 0 9999
 .simp
 rw[hv,Bool.and_true,Bool.and_true] at e3;rw[e3];generalize decide (c.au.length=c.keys.length)=b9;generalize decide (c.au.length=0)=m7;generalize decide (c.aL.length=0)=mG;generalize (c.val !=0)=xk;generalize c.over=ux;by_cases hn:dw c.ar=true
 .have U:dB c.ar=false:=by
   cases U:dB c.ar
   .rfl
   have:=pO U;simp[dw] at hn;omega
  rw[hn,U];rcases G4 with hh|hh<;>rw[hh]<;>by_cases he:c.end_=0<;>simp[he]<;>revert b1 b2 b4 b5 b6 b7 b9 m7 mG xk ux<;>decide
 simp only[Bool.not_eq_true] at hn;rw[hn];generalize dB c.ar=G5;rcases G4 with hh|hh<;>rw[hh]<;>by_cases he:c.end_=0<;>simp[he]<;>revert b1 b2 b4 b5 b6 b7 b9 m7 mG xk G5 ux<;>decide
def G6:∀{l:List Answer} {acc:List aw},bT acc=true->(∀a∈l,dL a=true)->bT (l.foldl ub acc)=true/\∀key,bI (l.foldl ub acc) key=dQ (bI acc key) (vx l key)
 |[],acc,ha,_=>⟨ha,λkey=>by show bI acc key=dQ (bI acc key) gm;rw[CW (tZ ha key)]⟩
 |a::r,acc,ha,h=>by
  have hg:=h a bn;cases hy:a.yes
  .have e:ub acc a=acc:=by unfold ub;rw[hy];simp
   have h2:=G6 (l:=r) ha λb hb=>h b (by simp[hb]);rw[List.foldl_cons,e];refine⟨h2.1,λkey=>?_⟩;rw[h2.2 key];show _=dQ _ (dQ (if a.yes=true/\a.key=key then a.aY.ar else gm) (vx r key));rw[if_neg (by rw[hy];simp),pP (DC (l:=r) (λb hb=>h b (by simp[hb])) key)]
  have hd:=AO hg hy;have e:ub acc a=gI acc ⟨a.key,a.aY.ar⟩:=by unfold ub;rw[hy];simp
  have bj:dB a.aY.ar=true:=(iW (qO hg hy).1).2.1;have h2:=G6 (l:=r) (Bd ha (hd.2▸hd.1)) λb hb=>h b (by simp[hb]);rw[List.foldl_cons,e];refine⟨h2.1,λkey=>?_⟩;rw[h2.2 key,CX key ha bj];show _=dQ _ (dQ (if a.yes=true/\a.key=key then a.aY.ar else gm) (vx r key));by_cases hk:a.key=key
  .rw[if_pos hk,if_pos ⟨hy,hk⟩,Kr]
  rw[if_neg hk,if_neg λh=>hk h.2,pP (DC (l:=r) (λb hb=>h b (by simp[hb])) key)]
def Bk:∀{l:List Answer} {acc:List aw},bT acc=true->(∀a∈l,dL a=true)->bT (l.foldl oc acc)=true/\∀key,bI (l.foldl oc acc) key=dQ (bI acc key) (dQ (kx l key) (vx l key))
 |[],acc,ha,_=>⟨ha,λkey=>by show bI acc key=dQ (bI acc key) (dQ gm gm);rw[pP (Or.inl rfl),CW (tZ ha key)]⟩
 |a::r,acc,ha,h=>by
  have hg:=h a bn;have hr:∀b∈r,dL b=true:=λb hb=>h b (by simp[hb]);cases hy:a.yes
  .have e:oc acc a=acc:=by unfold oc;rw[hy];simp
   have h2:=Bk (l:=r) ha hr;rw[List.foldl_cons,e];refine⟨h2.1,λkey=>?_⟩;rw[h2.2 key];show _=dQ _ (dQ (dQ (bI a.aY.aQ key) (kx r key)) (dQ (if a.yes=true/\a.key=key then a.aY.ar else gm) (vx r key)));rw[if_neg (by rw[hy];simp),pP (DC hr key),xb hg hy];show _=dQ _ (dQ (dQ gm (kx r key)) (vx r key));rw[pP (DB hr key)]
  have hd:=AO hg hy;have wC:=sG hg;have hv:=qO hg hy;have e:oc acc a=gI (iX acc a.aY.aQ) a.aY.aU:=by unfold oc;rw[hy];simp
  have bj:dB a.aY.aU.ar=true:=(iW hv.1).2.1;have hj:bT (iX acc a.aY.aQ)=true:=zb ha λd ko=>qN wC ko;have h2:=Bk (l:=r) (Bd hj hd.1) hr;rw[List.foldl_cons,e];refine⟨h2.1,λkey=>?_⟩;rw[h2.2 key,CX key hj bj,DJ ha wC];show _=dQ _ (dQ (dQ (bI a.aY.aQ key) (kx r key)) (dQ (if a.yes=true/\a.key=key then a.aY.ar else gm) (vx r key)));have e2:a.aY.aU.key=a.key:=hv.2;rw[e2];have e3:a.aY.aU.ar=a.aY.ar:=rfl;rw[e3];apply Kq;intro x;by_cases hk:a.key=key
  .rw[if_pos hk,if_pos ⟨hy,hk⟩];simp only[CV];cases bQ x (bI acc key)<;>cases bQ x (bI a.aY.aQ key)<;>cases bQ x (kx r key)<;>cases bQ x a.aY.ar<;>simp
  rw[if_neg hk,if_neg λh=>hk h.2,pP (DC hr key)];simp only[CV];cases bQ x (bI acc key)<;>cases bQ x (bI a.aY.aQ key)<;>cases bQ x (kx r key)<;>simp
def ag8 {c:Call} (hc:bT c.ctx=true) (h:∀a∈c.au,dL a=true):LP c=gJ c:=by
 unfold gJ LP;split
 .rfl
 split
 .rfl
 have Bh:=pY (acc:=[]) rfl h;have iv:bT (fT c)=true:=Bh.1;have hj:bT (iX c.ctx (fT c))=true:=zb hc λd hd=>qN iv hd;have h1:=G6 hj h;have h2:=Bk hc h;refine R6 h1.1 h2.1 λkey=>?_;rw[h1.2 key,h2.2 key,DJ hc iv];have e:bI (fT c) key=kx c.au key:=by
  show bI (c.au.foldl kT []) key=_;rw[Bh.2 key];show dQ gm _=_;exact pP (DB h key)
 rw[e,Kr]
def dh (s:Server) (m:az):Server×List az:=
 if m.kind=1 then gC s m else if m.kind=3 then(s,gR s m) else if m.kind=5 then gu s m else if m.kind=6 then(jw s m,[]) else
 if m.kind=7 then(s,lz s m) else if m.kind=8 then(ib s m,[]) else if m.kind=9 then gq s m else if m.kind=10 then(jL s m,[]) else(s,[])
def cN (s:Server) (m:az):Server×List az:=if s.up&&bK m&&(m.to==s.site) then dh s m else(s,[])
def ic (s:Server):List az:=if s.up then(leaving s).map (λi:Nat=>gS s (i:Int))++(s.aE.map (jN s)).flatten++(vF s).map (nb s) else[]
def iG (w:ai) (e:Ev):ai×Bool:=
 if aJ e.word 0 ((w.al.length:Int)-1) then
  let m:=ab w.al e.word.toNat
  let w1:=if e.kind=5\/e.gi=0 then{w with al:=w.al.take e.word.toNat++w.al.drop (e.word.toNat+1)} else w
  if e.kind=5 then(w1,true)
  else if aJ m.to 10 11 then(jC w1 m,true)
  else({w1 with aC:=w.aC.set m.to.toNat (cN (ab w.aC m.to.toNat) m).1,al:=eN w1.al (cN (ab w.aC m.to.toNat) m).2},true)
 else(w,false)
def fG (w:ai) (e:Ev):ai×Bool:=
 let s:=ab w.aC e.at_.toNat
 if e.kind=7 then({w with aC:=w.aC.set e.at_.toNat (l8 s)},!s.up)
 else if e.kind=6 then({w with aC:=w.aC.set e.at_.toNat (mE s)},s.up)
 else if e.kind=8 then({w with al:=eN w.al (ic s)},s.up)
 else if nD s e.slot then({w with aC:=w.aC.set e.at_.toNat (j9 s e.slot),al:=eN w.al [gS (j9 s e.slot) e.slot]},true) else(w,false)
def ag9 {q:Call} {time:Int} (h:nL q time=true):q.au.length<=3/\q.aL.length<=6:=by
 simp only[nL,qX,Bool.and_eq_true] at h;have hk:fU q=true:=h.1.1.1.1.1.1.2;have hd:bT q.aL=true:=h.1.1.1.2;have hg:o5 q=true:=h.2.1.1;have h3:q.keys.length<=3:=by
  unfold fU at hk;rw[Bool.and_eq_true] at hk;have:=hk.2;simp[aJ] at this;omega
 have nN:jZ q.keys=true:=by unfold fU at hk;rw[Bool.and_eq_true] at hk;exact hk.1
 have:=MK nN hg;exact⟨by omega,iV hd⟩
def G7 (q:Call) (time:Int) (ht:time<=4611686018427387904) (nO:q.au.length<=1048576):
 Fn prog 169 [q.av,AV.int time] (AV.bool (gf q time)):=by
 refine Fn.go 240 func169 ntmps169 (λW I a U=>?_);have lens:q.keys.length<=9223372036854775807/\q.au.length<=9223372036854775807/\q.aL.length<=9223372036854775807:=⟨U.ln 0 3,U.ln 0 11,U.ln 0 12⟩;refine bx λI a w U=>?_;refine U.o (.cl (jJ ..)) λU=>?_;refine bx λI a w U=>?_;refine U.q .F (.cl (jJ ..)) λU=>?_;refine bY λI a w U=>?_;refine U.q .F (.cl (jJ ..)) λU=>?_;refine bx λI a w U=>?_;refine U.q .F (.cl (adZ ..)) λU=>?_;refine bY λI a w U=>?_;refine U.q .F (.cl (jJ ..)) λU=>?_;refine bY λI a w U=>?_;refine U.q .F (.cl (tT ..)) λU=>?_;refine bY λI a w U=>?_;refine U.q .F (.cl (tT ..)) λU=>?_;refine dZ λI a w U=>?_;refine U.q .F (.cl (jJ ..)) λU=>?_;refine aF λI a w U=>?_;refine U.cd (λae=>?_) λae=>?_
 .replace ae:sJ q time=false:=by unfold sJ;rw[ae];rfl
  refine bf ?_;exact bB (by rw[zm];rw[ae];rfl)
 replace ae:sJ q time=true:=by unfold sJ;rw[ae];rfl
 refine wL λI a w U=>?_;refine U.q .T (lW .ag .ag (λhg=>by have:=Tw ae;omega)) λU=>?_;refine wM λI a w U=>?_;refine U.q .F2 (.bd kv aZ.nil) λU=>?_;refine U.q .F2 (tz [_,_] [_,_] nz rfl rfl .ag .ag) λU=>?_;refine dZ λI a w U=>?_;refine U.q .F (.cl (Tj ..)) λU=>?_;refine Ai λI a w U=>?_;refine U.cd (λah=>?_) λah=>?_
 .rw[Gk] at ah;replace ah:Ay q=false:=by unfold Ay;rw[ah];rfl
  refine bf ?_;exact bB (by rw[zm];rw[ae,ah];rfl)
 rw[Gk] at ah;replace ah:Ay q=true:=by unfold Ay;rw[ah];rfl
 refine aB λI a w U=>?_;refine St.lo (σ:=Nat) (run 2 4 (run 46 98 [])) ⟨λk=>[(5,AV.int k)],λk=>[],λk=>k<=q.au.length/\∀i,i<k->(xv q) i=true⟩ (λk=>q.au.length-k) 0 U ?aI ?bF;case aI=>exact⟨Nat.zero_le _,λi hi=>by omega⟩
 rintro k I a w ao U;obtain⟨mU,aM⟩:=ao;refine cF λI a w U=>?_;refine cz (λaq=>?_) λaq=>?_
 .refine zt ?_;refine U.dk ?_;refine fZ ?_;refine .o (.c1 (aga ..)) ?_;refine pK ?_;refine .q .F (.cl (SX ..)) ?_;refine pL ?_;refine iA ?_;refine .nil ?_;intro I a w U;refine bm ?_;refine U.cd (λaK=>?_) λaK=>?_
  .rw[Ve] at aK;replace aK:=nt aK;refine bf ?_;exact bB (by rw[zm];rw[eI (f:=xv q) aq aK];simp)
  rw[Ve] at aK;replace aK:=nf aK;refine aR λI a w U=>?_;exact U.ag (k+1) (⟨by omega,eY aM aK⟩)
 refine zt ?_;refine Fs λI a w U=>?_;refine U.cd (λaS=>?_) λaS=>?_
 .rw[R9] at aS;replace aS:=nt aS;refine bf ?_;exact bB (by rw[zm];rw[aS];simp)
 rw[R9] at aS;replace aS:=nf aS;refine aB λI a w U=>?_;refine St.lo (σ:=Nat) (4::(run 2 6 (run 34 157 []))) ⟨λk2=>[(6,AV.int k2)],λk2=>[],λk2=>k2<=q.aL.length/\∀i,i<k2->(xa q) i=true⟩ (λk2=>q.aL.length-k2) 0 U ?eo ?jK;case eo=>exact⟨Nat.zero_le _,λi hi=>by omega⟩
 rintro k2 I a w ao U;obtain⟨xu,iZ⟩:=ao;refine cF λI a w U=>?_;refine cz (λbA=>?_) λbA=>?_
 .refine zt ?_;refine U.dk ?_;refine mA ?_;refine .o (.c2 (Ge ..)) ?_;refine bG ?_;refine .nil ?_;intro I a w U;refine bm<|wp_seq<|U.dk ?_;refine iA ?_;refine .q .F ((by first|exact ff gP fg .ag .ag (λhg=>by have h0:0<=cv q (ab q.aL k2).key:=(by simpa using hg);have:=xx h0;omega)|exact iT gP fg .ag .ag (λhg=>by have h0:0<=cv q (ab q.aL k2).key:=(by simpa using hg);have:=xx h0;omega)|exact je gP fg .ag .ag (λhg=>by have h0:0<=cv q (ab q.aL k2).key:=(by simpa using hg);have:=xx h0;omega))) ?_;refine vh ?_;refine .q .F (.cl (Ar ..)) ?_;refine cG ?_;refine .nil ?_;intro I a w U;refine bm ?_;refine U.cd (λbt=>?_) λbt=>?_
  .rw[S0] at bt;replace bt:=nt bt;refine bf ?_;exact bB (by rw[zm];rw[eI (f:=xa q) bA bt];simp)
  rw[S0] at bt;replace bt:=nf bt;refine aR λI a w U=>?_;exact U.ag (k2+1) (⟨by omega,eY iZ bt⟩)
 refine zt ?_;refine aR λI a w U=>?_;refine cz (λcr=>?_) λcr=>?_
 .refine aG λI a w U=>?_;refine U.o (.bd kv aZ.nil) λU=>?_;refine U.o (nr [_,_] [_,_] nz rfl rfl .tt .tt) λU=>?_;refine bf ?_;exact bB (by rw[zm];rw[ae,ah,eX aM om,aS,eX iZ om,FX];unfold FW;rw[if_pos cr];rfl)
 refine mz λI a w U=>?_;refine U.q .T (lW .ag .c (λhg=>by have:=Tw ae;omega)) λU=>?_;refine U.q .T .mv λU=>?_;refine U.q .T (.cl (jJ ..)) λU=>?_;refine aal λI a w U=>?_;refine U.q .T2 (.cl (yl ..)) λU=>?_;refine JM λI a w U=>?_;refine U.rt ?_;exact bB (by rw[zm];rw[ae,ah,eX aM om,aS,eX iZ om];unfold FW;rw[if_neg cr];rfl)
def VL (l:List Call) (time:Int) (ht:time<=4611686018427387904) (nO:∀q∈l,q.au.length<=1048576):
 Fn prog 87 [iL l,AV.int time] (AV.bool (jr l time)):=by
 refine Fn.go 98 func87 ntmps87 (λW I a U=>?_);have hle:=U.eE (t:=0) rfl;refine aX λI a w U=>?_;refine cz (λae=>?_) λae=>?_
 .refine bf ?_;exact bB (by unfold jr;rw[acD ae];simp)
 refine aB λI a w U=>?_;refine St.lo (σ:=Nat) (run 4 4 (run 87 11 [])) ⟨λk=>[(5,AV.int k)],λk=>[],λk=>k<=l.length/\∀i,i<k->(nM l time) i=true⟩ (λk=>l.length-k) 0 U ?aI ?bF;case aI=>exact⟨Nat.zero_le _,λi hi=>by omega⟩
 rintro k I a w ao U;obtain⟨mU,aM⟩:=ao;refine aX λI a w U=>?_;refine cz (λah=>?_) λah=>?_
 .refine zt ?_;refine U.dk ?_;refine fZ ?_;refine .o (.c2 (G7 _ _ ht (nO _ (bh ah)))) ?_;refine pL ?_;refine dO ?_;refine .nil ?_;intro I a w U;refine bm ?_;refine U.cd (λaq=>?_) λaq=>?_
  .rw[Vg] at aq;replace aq:=nt aq;refine bf ?_;exact bB (by unfold jr;rw[eI (f:=nM l time) ah (by rw[GP,aq];rfl)];rfl)
  rw[Vg] at aq;replace aq:=nf aq;refine aF λI a w U=>?_;refine St.lo (σ:=Nat) (4::(run 2 6 (run 48 42 []))) ⟨λk2=>[(7,AV.int k2),(6,AV.int (fM l k2 (ab l k).aj))],λk2=>[],λk2=>k2<=k/\∀i,i<k2->(λj=>!mH (ab l j) (ab l k)) i=true⟩ (λk2=>k-k2) 0 U ?eo ?jK;case eo=>exact⟨Nat.zero_le _,λi hi=>by omega⟩
  rintro k2 I a w ao U;obtain⟨xu,iZ⟩:=ao;refine aR λI a w U=>?_;refine cz (λaK=>?_) λaK=>?_
  .refine aB λI a w U=>?_;refine cz (λaS=>?_) λaS=>?_
   .refine zt ?_;refine aR λI a w U=>?_;refine U.again (k2+1) ?hO ?hP dR ?hZ (by repeat(first|exact Env.le_rfl|refine Env.iy rfl ?_));case hO=>omega
    case hP=>exact⟨by omega,eY iZ (by show(!mH (ab l k2) (ab l k))=true;rw[ad0 aS];rfl)⟩
    case hZ=>exact(Env.dA rfl dR (Env.dA rfl (by first|exact congrArg AV.int (by rw[pR om,if_neg aS])|exact congrArg AV.int (by rw[Vf (aM k2 om),show(ab l k2).aj=(ab l k).aj by omega])) Env.le_nil))
   refine jW λI a w U=>?_;refine U.cd (λbA=>?_) λbA=>?_
   .rw[Tx om] at bA;refine bf ?_;exact bB (by unfold jr;rw[eI (f:=nM l time) ah (by rw[GP,eI (f:=λj=>!mH (ab l j) (ab l k)) (k:=k2) om (by rw[bA];rfl)];simp)];rfl)
   rw[Tx om] at bA;refine aR λI a w U=>?_;refine U.again (k2+1) ?mV ?mW dR ?mX (by repeat(first|exact Env.le_rfl|refine Env.iy rfl ?_));case mV=>omega
   case mW=>exact⟨by omega,eY iZ (by show(!mH (ab l k2) (ab l k))=true;rw[bA];rfl)⟩
   case mX=>exact(Env.dA rfl dR (Env.dA rfl (by first|exact congrArg AV.int (by rw[pR om,if_neg aS])|exact congrArg AV.int (by rw[Vf (aM k2 om),show(ab l k2).aj=(ab l k).aj by omega])) Env.le_nil))
  refine zt ?_;refine dZ λI a w U=>?_;refine U.o (lW .tt .c (λ_=>by have:=Dc l k2 (ab l k).aj;omega)) λU=>?_;refine aB λI a w U=>?_;refine cz (λbt=>?_) λbt=>?_
  .refine bf ?_;exact bB (by unfold jr;rw[eI (f:=nM l time) ah (by rw[GP,pR ah,if_pos rfl,show((ab l k).num==fM l k (ab l k).aj+1)=false by(rw[show k2=k by omega] at bt;simpa using bt)];simp)];rfl)
  refine aR λI a w U=>?_;exact U.ag (k+1) (⟨by omega,eY aM (by rw[GP,aq,eX iZ om];simp only[Bool.true_and,Bool.and_true,beq_iff_eq];rw[pR ah,if_pos rfl];rw[show k2=k by omega] at bt;omega)⟩)
 refine zt ?_;refine bf ?_;exact bB (by unfold jr;rw[eX aM om];simp;omega)
def aha (m:az) (h1:gV m.aT) (h2:gV m.to):
 Fn prog 68 [m.av] (AV.bool (yP m)):=by
 refine Fn.go 6 func68 ntmps68 (λW I a U=>?_);refine bk λI a w U=>?_;refine U.o (.c1 (MJ _ h1 h2)) λU=>?_;refine c8 ?_;rfl
def G8 (x:ai) (nO:∀q∈x.calls,q.au.length<=1048576):
 Fn prog 33 [x.av] (AV.bool (cK x)):=by
 refine Fn.go 88 func33 ntmps33 (λW I a U=>?_);have lens:x.aC.length<=9223372036854775807/\x.al.length<=9223372036854775807/\x.calls.length<=9223372036854775807/\x.seen.length<=9223372036854775807:=⟨U.ln 0 1,U.ln 0 2,U.ln 0 3,U.ln 0 4⟩;refine bx λI a w U=>?_;refine U.o (.cl (jJ ..)) λU=>?_;refine aaq λI a w U=>?_;refine U.q .F (CB (λhg=>VL x.calls x.time (by simp[aJ] at hg;omega) nO) (ax .ag (ax .ag aH))) λU=>?_;refine aF λI a w U=>?_;refine U.cd (λae=>?_) λae=>?_
 .rw[Vh] at ae;replace ae:=nt ae;refine bf ?_;exact bB (by unfold cK;rw[AG,Dq];revert ae;cases oQ x<;>cases jr x.calls x.time<;>simp)
 rw[Vh] at ae;replace ae:=nf ae;refine aB λI a w U=>?_;refine St.lo (σ:=Nat) (run 2 2 (run 24 36 [])) ⟨λk=>[(3,AV.int k)],λk=>[],λk=>k<=x.aC.length/\∀i,i<k->(sD x) i=true⟩ (λk=>x.aC.length-k) 0 U ?aI ?bF;case aI=>exact⟨Nat.zero_le _,λi hi=>by omega⟩
 rintro k I a w ao U;obtain⟨mU,aM⟩:=ao;refine cF λI a w U=>?_;refine cz (λah=>?_) λah=>?_
 .refine bY λI a w U=>?_;refine U.o (.c1 (xq ..)) λU=>?_;refine Ai λI a w U=>?_;refine U.cd (λaq=>?_) λaq=>?_
  .rw[UP] at aq;replace aq:=nt aq;refine bf ?_;exact bB (by unfold cK;rw[AG,Dq];rw[eI (f:=sD x) ah aq];simp)
  rw[UP] at aq;replace aq:=nf aq;refine aR λI a w U=>?_;exact U.ag (k+1) (⟨by omega,eY aM aq⟩)
 refine zt ?_;refine aB λI a w U=>?_;refine St.lo (σ:=Nat) (2::(4::(run 14 60 []))) ⟨λk2=>[(4,AV.int k2)],λk2=>[],λk2=>k2<=x.al.length/\∀i,i<k2->(λi=>bK (ab x.al i)) i=true⟩ (λk2=>x.al.length-k2) 0 U ?eo ?jK;case eo=>exact⟨Nat.zero_le _,λi hi=>by omega⟩
 rintro k2 I a w ao U;obtain⟨xu,iZ⟩:=ao;refine cF λI a w U=>?_;refine cz (λaK=>?_) λaK=>?_
 .refine bY λI a w U=>?_;refine U.o (.c1 (Mo ..)) λU=>?_;refine aB λI a w U=>?_;refine U.cd (λaS=>?_) λaS=>?_
  .replace aS:=nt aS;refine bf ?_;exact bB (by unfold cK;rw[AG,Dq];rw[eI (f:=λi=>bK (ab x.al i)) aK aS];simp)
  replace aS:=nf aS;refine aR λI a w U=>?_;exact U.ag (k2+1) (⟨by omega,eY iZ aS⟩)
 refine zt ?_;refine aB λI a w U=>?_;refine St.lo (σ:=Nat) (2::(5::(run 14 74 []))) ⟨λk3=>[(5,AV.int k3)],λk3=>[],λk3=>k3<=x.seen.length/\∀i,i<k3->(λi=>bT (ab x.seen i)) i=true⟩ (λk3=>x.seen.length-k3) 0 U ?iD ?od;case iD=>exact⟨Nat.zero_le _,λi hi=>by omega⟩
 rintro k3 I a w ao U;obtain⟨GK,ov⟩:=ao;refine cF λI a w U=>?_;refine cz (λbA=>?_) λbA=>?_
 .refine bY λI a w U=>?_;refine U.o (.cl (tT ..)) λU=>?_;refine aB λI a w U=>?_;refine U.cd (λbt=>?_) λbt=>?_
  .replace bt:=nt bt;refine bf ?_;exact bB (by unfold cK;rw[AG,Dq];rw[eI (f:=λi=>bT (ab x.seen i)) bA bt];simp)
  replace bt:=nf bt;refine aR λI a w U=>?_;exact U.ag (k3+1) (⟨by omega,eY ov bt⟩)
 refine zt ?_;refine bf ?_;exact bB (by unfold cK;rw[AG,Dq];rw[eX aM om,eX iZ om,eX ov om];rw[Bool.and_eq_true] at ae;rw[ae.1,ae.2];rfl)
def ML (q:Call) (t:Int) (hq:gf q t=true):
 Fn prog 96 [q.av] (bE (gJ q)):=by
 refine Fn.go 45 func96 ntmps96 (λW I a U=>?_);have lens:q.keys.length<=9223372036854775807/\q.au.length<=9223372036854775807/\q.aL.length<=9223372036854775807:=⟨U.ln 0 3,U.ln 0 11,U.ln 0 12⟩;have hp:=ze hq;have hc6:=iV hp.1;refine bx λI a w U=>?_;refine U.o (bO (vu q.ctx om) (ax .r aH)) λU=>?_;refine aX λI a w U=>?_;refine cz (λae=>?_) λae=>?_
 .refine c8 ?_;exact congrArg bE (by unfold gJ;rw[if_pos ae])
 refine aR λI a w U=>?_;refine cz (λah=>?_) λah=>?_
 .refine wp_seq<|U.dk ?_;refine dO ?_;refine .o ((by first|exact ff kR jH .tt .c (λ_=>by have:=yS hp.2.2.1 ah;omega)|exact iT kR jH .tt .c (λ_=>by have:=yS hp.2.2.1 ah;omega)|exact je kR jH .tt .c (λ_=>by have:=yS hp.2.2.1 ah;omega))) ?_;refine dO ?_;refine .o (.bd gX (.k (.t aZ.nil))) ?_;refine .o (.cl (Lc _ ⟨ab q.keys 0,q.ar⟩ hp.1)) ?_;refine bG ?_;refine .nil ?_;intro I a w U;refine zt ?_;refine U.rt ?_;exact congrArg bE (by unfold gJ;rw[if_neg ae,if_pos ah])
 refine aX λI a w U=>?_;refine St.lo (σ:=Nat) (3::(5::(run 16 28 []))) ⟨λk=>[(28,AV.int k),(3,bE ((q.au.take k).foldl oc q.ctx))],λk=>[],λk=>k<=q.au.length⟩ (λk=>q.au.length-k) 0 U ?aI ?bF;case aI=>exact Nat.zero_le _
 rintro k I a w ao U;have hk:k<=q.au.length:=ao;refine aB λI a w U=>?_;refine cz (λaq=>?_) λaq=>?_
 .refine aG λI a w U=>?_;refine U.alloc rfl fg pM λb5 I a w U=>?_;refine aB λI a w U=>?_;obtain⟨I,U⟩:=U.fb 0 5;refine aF λI a w U=>?_;refine cz (λaK=>?_) λaK=>?_
  .refine U.dk ?_;refine eb ?_;refine .o (.cl (Mt _ _ (Bk hp.1 (yI hp.2.1 k)).1 (sG (hp.2.1 _ (bh aq))))) ?_;refine cG ?_;refine .o (.c1 (nA ..)) ?_;refine .o (.cl (Lc _ _ (zb (Bk hp.1 (yI hp.2.1 k)).1 λd hd=>qN (sG (hp.2.1 _ (bh aq))) hd))) ?_;refine bG ?_;refine .nil ?_;intro I a w U;refine aF λI a w U=>?_;have U:=U.drop 0;refine U.again (k+1) ?hO ?hP dR ?hZ (by repeat(first|exact Env.le_rfl|refine Env.iy rfl ?_));case hO=>omega
   case hP=>exact aq
   case hZ=>exact(Env.dA rfl dR (Env.dA rfl (by exact congrArg bE (by rw[yR aq];unfold oc;rw[aK];rfl)) Env.le_nil))
  refine aF λI a w U=>?_;have U:=U.drop 0;refine U.again (k+1) ?mV ?mW dR ?mX (by repeat(first|exact Env.le_rfl|refine Env.iy rfl ?_));case mV=>omega
  case mW=>exact aq
  case mX=>exact(Env.dA rfl dR (Env.dA rfl (by exact congrArg bE (by rw[yR aq];unfold oc;rw[aK];rfl)) Env.le_nil))
 refine zt ?_;refine c8 ?_;exact congrArg bE (by rw[List.take_of_length_le om];unfold gJ;rw[if_neg ae,if_neg ah])
def DP {s:Server} {m:az} (h:bJ s) (hm:bK m=true) (ho:jM (fB s m)=true):(eV s m).ar.site=s.site/\dB (eV s m).ar=true/\∀x∈fB s m,x.time<(eV s m).ar.time:=by
 obtain⟨h1,h2,h3⟩:=afj h.site (LI h hm) ho;exact⟨h2,h1,h3⟩
def ahc {s:Server} {m:az} (h:bJ s) (hm:bK m=true):∀w∈(gC s m).2,bK w=true:=by
 unfold gC;split
 .split
  .rename_i v hv;intro w hw;obtain rfl:w=_:=by simpa using hw
   exact Ux h hm (iW (fw h.an v (KV hv).1)).2.1
  split
  .rename_i hk;simp only[Bool.and_eq_true,decide_eq_true_eq] at hk;intro w hw;obtain rfl:w=_:=by simpa using hw
   exact Ux h hm (DP h hm hk.1.1).2.1
  intro w hw;simp at hw
 intro w hw;simp at hw
def G9 {s:Server} (h:bJ s):∀w∈ic s,bK w=true:=by
 unfold ic;split
 .intro w hw;rcases List.mem_append.1 hw with hw|hw
  .rcases List.mem_append.1 hw with hw|hw
   .obtain⟨i,hi,rfl⟩:=List.mem_map.1 hw;have:=Sz h hi;exact GI h om om
   obtain⟨ws,h1,h2⟩:=List.mem_flatten.1 hw;obtain⟨d,_,rfl⟩:=List.mem_map.1 h1;exact aeR h w h2
  obtain⟨d,hd,rfl⟩:=List.mem_map.1 hw;exact afH h (afI h d hd)
 intro w hw;simp at hw
def ahd (s:Server) (m:az):(dh s m).1.site=s.site:=by
 unfold dh;repeat' split
 .exact afk s m
 .rfl
 .exact agi s m
 .show(jw s m).site=s.site;unfold jw;split<;>rfl
 .rfl
 .show(ib s m).site=s.site;unfold ib;split
  .exact AQ _
  rfl
 .exact aeS s m
 .show(jL s m).site=s.site;unfold jL;split
  .exact AQ _
  rfl
 rfl
def ahe (s:Server) (m:az):(cN s m).1.site=s.site:=by
 unfold cN;split
 .exact ahd s m
 rfl
def ahf {w:ai} (h:bX w) (e:Ev) (ha:cM e.at_=true):bX (fG w e).1:=by
 rw[jy] at ha;have hi:e.at_.toNat<4:=by omega
 obtain⟨_,U⟩:=h.site _ hi;unfold fG;dsimp only;split
 .exact h.server hi (Sa U) rfl
 split
 .exact h.server hi (Sb U) rfl
 split
 .exact h.send (G9 U)
 split
 .rename_i hk;have hp:=yz hk;have hg:=A4 U hk;exact(h.server hi hg rfl).send λm hm=>by
   obtain rfl:m=_:=by simpa using hm
   exact GI hg hp.2.1 hp.2.2.1
 exact h
def sR {s:Server} {m:az} (h:m.kind=1):dh s m=((gC s m).1,(gC s m).2):=by unfold dh;rw[if_pos h]
def sS {s:Server} {m:az} (h:m.kind=3):dh s m=(s,gR s m):=by unfold dh;rw[h];rfl
def sT {s:Server} {m:az} (h:m.kind=5):dh s m=((gu s m).1,(gu s m).2):=by unfold dh;rw[h];rfl
def sU {s:Server} {m:az} (h:m.kind=6):dh s m=(jw s m,[]):=by unfold dh;rw[h];rfl
def uB {s:Server} {m:az} (h:m.kind=7) (h2:((lq s.an ⟨m.key,m.ar⟩).isSome&&(m.aT==fA s.site))=true) (hc:ct s.an=true):dh s m=(s,[mZ s m]):=by
 rw[C5 hc] at h2;unfold dh;rw[h];show(s,lz s m)=_;unfold lz;rw[h2];rfl
def uC {s:Server} {m:az} (h:m.kind=7) (h2:((lq s.an ⟨m.key,m.ar⟩).isSome&&(m.aT==fA s.site))=false) (hc:ct s.an=true):dh s m=(s,[]):=by
 rw[C5 hc] at h2;unfold dh;rw[h];show(s,lz s m)=_;unfold lz;rw[h2];rfl
def sV {s:Server} {m:az} (h:m.kind=8):dh s m=(ib s m,[]):=by unfold dh;rw[h];rfl
def sW {s:Server} {m:az} (h:m.kind=9):dh s m=((gq s m).1,(gq s m).2):=by unfold dh;rw[h];rfl
def sX {s:Server} {m:az} (h:m.kind=10):dh s m=(jL s m,[]):=by unfold dh;rw[h];rfl
def uD {s:Server} {m:az} (h1:¬m.kind=1) (h3:¬m.kind=3) (h5:¬m.kind=5) (h6:¬m.kind=6) (h7:¬m.kind=7) (h8:¬m.kind=8) (h9:¬m.kind=9) (F6:¬m.kind=10):dh s m=(s,[]):=by
 unfold dh;rw[if_neg h1,if_neg h3,if_neg h5,if_neg h6,if_neg h7,if_neg h8,if_neg h9,if_neg F6]
def VM (s:Server) (m:az):(dh s m).2.length<=1:=by
 unfold dh;repeat' split
 .exact afn s m
 .exact aeX s m
 .exact agk s m
 .simp
 .show(lz s m).length<=1;unfold lz;split<;>simp
 .simp
 .exact aeY s m
 .simp
 simp
def jO (s:Server) (k:Nat):List az:=pW s 3++((s.aE.take k).map (jN s)).flatten
def Ha {s:Server} {k:Nat} (h:k<s.aE.length):jO s (k+1)=jO s k++jN s (ab s.aE k):=by
 unfold jO;rw[fe h,List.map_append,List.flatten_append,List.append_assoc];simp
def Bl (s:Server):∀k,k<=s.aE.length->(jO s k).length<=3+2*k
 |0,_=>by have:=LU s 3;simp[jO];omega
 |k+1,h=>by have:=Bl s k om;have:=Ul s (ab s.aE k);rw[Ha om,List.length_append];omega
def pd (s:Server) (l:List aw):List az:=jO s s.aE.length++l.map (nb s)
def VN (s:Server) (l:List aw) (d:aw):pd s l++[nb s d]=pd s (l++[d]):=by unfold pd;simp
def MM {s:Server} (hu:s.up=true) (h3:s.aD.length=3):pd s (vF s)=ic s:=by
 unfold pd jO pW ic;rw[hu,if_pos rfl,List.take_length,<-h3,afM]
def VO {s:Server} (hg:bJ s):(ic s).length<=1000:=by
 by_cases hu:s.up=true
 .have h1:=Bl s s.aE.length (Nat.le_refl _);have h2:=iP hg.aE;have h3:=AZ (s:=s) (λv hv=>iV (iW (fw hg.waits v hv)).2.2) s.waits.length (Nat.le_refl _);have h4:=ga hg.waits;rw[Lo s (Nat.le_refl _)] at h3;rw[<-MM hu hg.aD];unfold pd;rw[List.length_append,List.length_map];omega
 unfold ic;rw[if_neg hu];simp
def VP {s:Server} (hu:s.up=false):ic s=[]:=by unfold ic;rw[hu];rfl
def VQ {s:Server} {k:Nat} (h:k=3):pW s k=jO s 0:=by subst h;simp[jO]
def VR {s:Server} {k:Nat} (h:k=s.aE.length):jO s k=pd s (ot s 0):=by
 subst h;unfold pd;rw[show ot s 0=[] from rfl];simp
def VT {s:Server} {k j:Nat} {v:aA} (bj:cP s (ab s.aE k).key=1) (hv:eK s.an (ab s.aE k)=some v) (hj:j<2):jO s k++(jN s (ab s.aE k)).take j++[{cn with kind:=5,aT:=s.site,to:=2-2*bM s.site+(j:Int),an:=[v]}]=jO s k++(jN s (ab s.aE k)).take (j+1):=by
 rw[List.append_assoc,<-ae0 bj hv hj,<-fe (by rw[aeZ bj];exact hj)]
def VU {s:Server} {k j:Nat} (hk:k<s.aE.length) (hj:2<=j):jO s k++(jN s (ab s.aE k)).take j=jO s (k+1):=by
 rw[Ha hk,List.take_of_length_le (by have:=Ul s (ab s.aE k);omega)]
def ahg {s:Server} {k:Nat} {v:aA} (hk:k<s.aE.length) (zn:v.key=(ab s.aE k).key) (h:¬(ab s.aD (cV v.key).toNat).cm=1):jO s k=jO s (k+1):=by
 rw[Ha hk,Um (by unfold cP;rw[<-zn];exact h),List.append_nil]
def ahh (s:Server) (hg:bJ s):
 Fn prog 236 [s.av] ((l8 s).av):=by
 refine Fn.go 12 func236 ntmps236 (λW I a U=>?_);have ao:=jX.2 hg;have dq:=hg.ok;have ja:=hg.small;refine bD λI a w U=>?_;refine U.alloc rfl cA dS λb2 I a w U=>?_;refine bD λI a w U=>?_;refine U.o (.c1 (zl ..)) λU=>?_;refine aB λI a w U=>?_;refine U.cd (λae=>?_) λae=>?_
 .exfalso;rw[ao] at ae;cases ae;skip
 refine bD λI a w U=>?_;refine U.o (.c1 (vL s ja)) λU=>U.alloc rfl cA dS λb3 I a w U=>?_;refine cF λI a w U=>?_;refine U.ret rfl (.cons (.sx 0) aV.nil) ?_;rfl
def ahi (s:Server) (hg:bJ s):
 Fn prog 235 [s.av] ((mE s).av):=by
 refine Fn.go 13 func235 ntmps235 (λW I a U=>?_);have ao:=jX.2 hg;have dq:=hg.ok;have ja:=hg.small;refine bD λI a w U=>?_;refine U.alloc rfl cA dS λb2 I a w U=>?_;refine bD λI a w U=>?_;refine U.o (.c1 (zl ..)) λU=>?_;refine aB λI a w U=>?_;refine U.cd (λae=>?_) λae=>?_
 .exfalso;rw[ao] at ae;cases ae;skip
 refine bD λI a w U=>?_;refine U.o (.c1 (vL s ja)) λU=>U.alloc rfl cA dS λb3 I a w U=>?_;refine bx λI a w U=>?_;refine U.EV 1 qz .tt (At.nil (sz:=3) .c) (by first|exact j6 rfl|exact kg|exact kh|exact kr) rfl rfl λa w U=>?_;refine aF λI a w U=>?_;refine U.ret rfl (.cons (.sx 0) aV.nil) ?_;rfl
def ahj (s:Server) (slot:Int) (hg:bJ s):
 Fn prog 238 [s.av,AV.int slot] (AV.dG [(fF s slot).1.av,(fF s slot).2.1.av,AV.bool (fF s slot).2.2]):=by
 refine Fn.go 59 func238 ntmps238 (λW I a U=>?_);have ao:=jX.2 hg;have dq:=hg.ok;have ja:=hg.small;have h3:=hg.aD;have Bm:aJ slot 0 2=true->(ab s.aD slot.toNat).bw<=9999:=λhi=>by have h9:=hg.aN _ (bh (l:=s.aD) (k:=slot.toNat) (by simp[aJ] at hi;omega));exact(uc.1 h9).2.1
 have e9:∀x,x=de.cells ⟨(ab s.aD slot.toNat).bw+1,2⟩->(List.map de.cells s.aD).set slot.toNat x=List.map de.cells (j9 s slot).aD:=λx h=>by rw[h];exact List.map_set.symm
 refine bD λI a w U=>?_;refine U.alloc rfl cA dS λb4 I a w U=>U.alloc rfl dV eU λb5 I a w U=>?_;refine aG λI a w U=>?_;refine U.o (.c1 (zl ..)) λU=>?_;refine aB λI a w U=>?_;refine U.cd (λae=>?_) λae=>?_
 .exfalso;rw[ao] at ae;cases ae;skip
 refine bD λI a w U=>?_;refine U.cY [] (DA s ja) (ax .tt aH) rfl aP rfl λ⟨vS,vV,vW,vO,vK⟩ I a w vT U=>?_;unfold Server.S1 at U;have U:=U.nf;refine U.alloc rfl cA dS λb7 I a w U=>?_;refine U.sb 7 λU=>?_;refine wpList_nil ?_;obtain⟨I,U⟩:=U.fu 3 3 7;obtain⟨I,U⟩:=U.fu 4 4 7;obtain⟨I,U⟩:=U.fu 5 5 7;obtain⟨I,U⟩:=U.fu 6 6 7;have U:=U.nf;refine bY λI a w U=>?_;refine U.q .F (.cl (jI ..)) λU=>?_;refine dZ λI a w U=>?_;refine U.q .F ((by first|exact ff gQ fh .ag .ag (λhg=>by simp[aJ] at hg;omega)|exact iT gQ fh .ag .ag (λhg=>by simp[aJ] at hg;omega)|exact je gQ fh .ag .ag (λhg=>by simp[aJ] at hg;omega))) λU=>?_;refine mz λI a w U=>?_;refine U.q .F ((by first|exact ff gQ fh .ag .ag (λhg=>by simp[aJ] at hg;omega)|exact iT gQ fh .ag .ag (λhg=>by simp[aJ] at hg;omega)|exact je gQ fh .ag .ag (λhg=>by simp[aJ] at hg;omega))) λU=>?_;refine aX λI a w U=>?_;refine U.cd (λah=>?_) λah=>?_
 .rw[Sf Bm] at ah;replace ah:=nt ah;obtain⟨I,U⟩:=U.fu 2 2 7;refine sr<|U.o (.ls 7) λU=>?_;refine U.o (.bd eU aZ.nil) λU=>?_;refine aR λI a w U=>?_;refine U.ret rfl (.cons (.sx 0) (.cons (.sx 1) (.cons (.t rfl) aV.nil))) ?_;exact(by unfold fF;rw[ah];rfl)
 rw[Sf Bm] at ah;replace ah:=nf ah;have hmp:=yz ah;have Bj:=uc.1 (F5 hg (i:=slot.toNat) om);have zj:=A4 hg ah;refine zt ?_;obtain⟨bS,cS,rfl⟩:=U.ku 2 rfl lf;refine U.dt 12 ?_;simp only[TD];refine bG ?_;refine .o (.lb 7) ?_;refine ny ?_;refine .o (.bd oF (.k (.k aZ.nil))) ?_;refine .o (jF gQ fh .tt .tt (λ_=>by simp only[List.length_map];omega)) ?_;refine .nil ?_;intro I a w U;refine U.mn 2 fh .tt .tt rfl (by exact gB om) rfl rfl λa w U=>?_;refine zt ?_;rw[e9] at U;rotate_left
 .rfl
 obtain⟨I,U⟩:=U.fu 2 2 7;have U:=U.nf;refine U.dt 4 ?_;simp only[TD];refine .o (.ls 7)<|.o (.ls 7) ?_;refine bG ?_;refine .o (bO (UF (j9 s slot) slot zj.small zj.site zj.aD om) (ax (.t rfl) (ax (.t rfl) aH))) ?_;refine .nil ?_;intro I a w U;refine aR λI a w U=>?_;refine U.ret rfl (.cons (.sx 0) (.cons (.sx 1) (.cons (.t rfl) aV.nil))) ?_;exact(by unfold fF;rw[ah];rfl)
def ahk {s:Server} {k:Nat} (hk:k<s.aE.length) (h:fE s (ab s.aE k).key=false) (hb:du (ab s.aE k).key=true):jO s k=jO s (k+1):=by
 unfold fE at h;rw[hb,Bool.true_and] at h;rw[Ha hk,Um (by simpa using h),List.append_nil]
def VV {q:Call} {k:Nat} (hw:bV q=true) (h:(asks q).length<=k):pX q k=gD q:=by
 unfold pX gD;rw[if_pos hw,List.take_of_length_le h]
def ahl {a:Answer} {s:cE} (h:dL a=true) (U:ua s):(!dw s&&nE a s)=bQ a.aY.ar s:=by
 rcases U with rfl|U
 .rw[afv h];rfl
 rw[Mr h U];have:dw s=false:=by simp[dB,aJ] at U;simp[dw];intro e;rw[e] at U;simp at U
 rw[this];rfl
def ahm {q:Call} {k:Nat} (h:∀a∈q.au,dL a=true) (hk:q.au.length<=k):sM q k=ky q:=by
 have hS:∀key,ua (bI (fT q) key):=λkey=>tZ (pY (acc:=[]) rfl h).1 key;have key:∀l:List Answer,(∀a∈l,dL a=true)->(l.filter λa=>!dw (bI (fT q) a.key)&&nE a (bI (fT q) a.key)).map (λa=>(⟨a.key,bI (fT q) a.key⟩:aw))=(l.map (oN (fT q))).flatten:=by
  intro l;induction l with
  |nil=>intro _;rfl
  |cons a r ih=>
   intro hl
   have ih:=ih λx hx=>hl x (by simp[hx])
   have ht:=ahl (hl a bn) (hS a.key)
   rw[List.map_cons,List.flatten_cons,<-ih]
   unfold oN
   by_cases hp:bQ a.aY.ar (bI (fT q) a.key)=true
   .rw[List.filter_cons_of_pos (by rw[ht];exact hp),if_pos hp];rfl
   rw[List.filter_cons_of_neg (by rw[ht];exact hp),if_neg hp];rfl
 unfold sM ky;rw[List.take_of_length_le hk];exact key _ h
def ahn (q:Call) (n:Value) (hg:∀a∈q.au,dL a=true) (hl:q.au.length<=1048576):
 Fn prog 354 [q.A0 n] (bE (ky q)):=by
 refine Fn.go 51 func354 ntmps354 (λW I a U=>?_);have U:=U.ik (sz:=3) 125;refine aR λI a w U=>?_;have U:=U.z7 (t:=3) rfl (fN 3 _);refine aX λI a w U=>?_;refine St.lo (σ:=Nat) (3::(5::(run 10 13 []))) ⟨λk=>[(13,AV.int k),(3,bE ((q.au.take k).foldl kT []))],λk=>[Own.row (.slice none 0 0) 125 3 []],λk=>k<=q.au.length⟩ (λk=>q.au.length-k) 0 U ?aI ?bF;case aI=>exact Nat.zero_le _
 rintro k I a w ao U;have hk:k<=q.au.length:=ao;dsimp only at U;refine aB λI a w U=>?_;refine cz (λae=>?_) λae=>?_
 .refine aG λI a w U=>?_;refine U.alloc rfl fg pM λb5 I a w U=>?_;refine aB λI a w U=>?_;obtain⟨I,U⟩:=U.fb 1 5;refine bx λI a w U=>?_;refine U.o (.cl (Mt ((q.au.take k).foldl kT []) (ab q.au k).aY.aQ (pY (acc:=[]) rfl (yI hg k)).1 (sG (hg _ (bh ae))))) λU=>?_;rw[show iX ((q.au.take k).foldl kT []) (ab q.au k).aY.aQ=(q.au.take (k+1)).foldl kT [] from by rw[fe ae,List.foldl_append];rfl] at U;refine aR λI a w U=>?_;have U:=U.drop 1;exact U.ag (k+1) (ae)
 refine wp_exit<|cB<|cB<|fo<|bm<|wp_seq ?_;rw[show(q.au.take k).foldl kT []=fT q from by rw[List.take_of_length_le om];rfl] at U;refine cF λI a w U=>?_;refine St.lo (σ:=Nat×Value) (6::(run 2 8 (run 24 26 []))) ⟨λ⟨k,v⟩=>[(26,AV.int k),(6,AV.val v)],λ⟨k,v⟩=>[Own.row v 125 3 ((sM q k).map aw.cells)],λ⟨k,v⟩=>k<=q.au.length⟩ (λ⟨k,v⟩=>q.au.length-k) (0,.slice none 0 0) U ?eo ?jK;case eo=>exact Nat.zero_le _
 rintro⟨k,v⟩ I a w ao U;have hk:k<=q.au.length:=ao;dsimp only at U;refine aB λI a w U=>?_;refine cz (λah=>?_) λah=>?_
 .refine aG λI a w U=>?_;refine U.alloc rfl fg pM λb8 I a w U=>?_;refine aB λI a w U=>?_;obtain⟨I,U⟩:=U.fb 1 8;refine bk λI a w U=>?_;refine U.o (.cl (R8 (fT q) (ab q.au k).key)) λU=>?_;refine U.alloc rfl mQ kv λb9 I a w U=>?_;refine aB λI a w U=>?_;obtain⟨I,U⟩:=U.fb 2 9;refine U.o .la λU=>?_;refine U.o (.c1 (xh ..)) λU=>?_;refine bx λI a w U=>?_;refine U.q .T (.cl (LR ..)) λU=>?_;refine aB λI a w U=>?_;refine U.cd (λaq=>?_) λaq=>?_
  .refine bx λI a w U=>?_;refine U.o (.bd gX (.k (.t aZ.nil))) λU=>?_;refine U.o (.li [aw.cells ⟨(ab q.au k).key,bI (fT q) (ab q.au k).key⟩] jk (.u .nil)) λU=>?_;refine U.append 0 rfl dX cW rfl .tt .r rfl (by have:=afu q k;simp;omega) λMN a w U=>?_;rw[cJ,afs ah aq] at U;refine aR λI a w U=>?_;have U:=U.drop 1;exact U.ag (k+1,MN) (ah)
  refine aF λI a w U=>?_;have U:=U.drop 1;rw[aft ah aq] at U;exact U.ag (k+1,v) (ah)
 refine wp_exit<|cB<|cB<|fo<|bm<|wp_seq ?_;rw[ahm hg om] at U;obtain⟨I,U⟩:=U.fr 0 6;refine c8 ?_;rfl
def aho {s:Server} {m:az} (h:(m.kind==7&&(m.aT==fA s.site)&&decide (0<=placeOf s.an ⟨m.key,m.ar⟩))=true):dh s m=(s,[mZ s m]):=by
 simp only[Bool.and_eq_true,beq_iff_eq,decide_eq_true_eq] at h;unfold dh;rw[h.1.1];show(s,lz s m)=_;unfold lz eK;rw[if_pos h.2,h.1.2];simp
def ahp {s:Server} {m:az} (h:(m.kind==8&&(m.aT==fA s.site)&&iq s ⟨m.key,m.ar⟩&&decide ((s.ba.length:Int)<80))=true):dh s m=(ef {s with ba:=eA s.ba ⟨m.key,m.ar⟩},[]):=by
 simp only[Bool.and_eq_true,beq_iff_eq,decide_eq_true_eq] at h;have hl:s.ba.length<80:=by omega
 rw[sV h.1.1.1];unfold ib;rw[if_pos (by simp only[Bool.and_eq_true,beq_iff_eq,decide_eq_true_eq];exact⟨⟨h.1.1.2,h.1.2⟩,hl⟩)]
def ahq {s:Server} {m:az} (h:(m.kind==10&&(m.aT==fA s.site)&&([(ab s.aD m.slot.toNat).bw,(ab s.aD m.slot.toNat).cm]==[m.bw,2]))=true):dh s m=(ef (lr s m),[]):=by
 simp only[Bool.and_eq_true,beq_iff_eq,List.cons.injEq] at h;rw[sX h.1.1];unfold jL;rw[if_pos (by simp only[Bool.and_eq_true,beq_iff_eq];exact⟨⟨h.1.2,h.2.2.1⟩,h.2.1⟩)]
def ahr {s:Server} {m:az} (hg:bJ s) (h:(m.kind==6&&(cM m.aT&&(bM m.aT !=bM s.site))&&fE s m.key)=true):dh s m=({s with aE:=s.aE.filter (λd=>!decide (d=⟨m.key,m.ar⟩))},[]):=by
 simp only[Bool.and_eq_true,beq_iff_eq] at h;obtain⟨⟨h1,h2,h3⟩,h4⟩:=h;have h5:(cP s m.key==1)=true:=by unfold fE at h4;rw[Bool.and_eq_true] at h4;exact h4.2
 rw[sU h1,afR hg.aE];unfold jw;rw[h2,h3,h5];by_cases hi:0<=fy s.aE ⟨m.key,m.ar⟩
 .rw[if_pos hi,if_pos (by simp[hi])]
 rw[if_neg hi,if_neg (by simp[hi])]
def xC {w:ai} {e:Ev} (h:aJ e.word 0 ((w.al.length:Int)-1)=true):iG w e=if e.kind=5 then({w with al:=jo w e},true) else if aJ (ab w.al e.word.toNat).to 10 11=true then(jC {w with al:=jo w e} (ab w.al e.word.toNat),true)
 else({w with aC:=w.aC.set (ab w.al e.word.toNat).to.toNat (cN (ab w.aC (ab w.al e.word.toNat).to.toNat) (ab w.al e.word.toNat)).1,al:=eN (jo w e) (cN (ab w.aC (ab w.al e.word.toNat).to.toNat) (ab w.al e.word.toNat)).2},true):=by
 unfold iG;rw[if_pos h,adP]
def Hb {w:ai} {e:Ev} (h:aJ e.word 0 ((w.al.length:Int)-1)=false):iG w e=(w,false):=by unfold iG;rw[h];rfl
def ahs {w:ai} {e:Ev} (h:e.kind=7):fG w e=({w with aC:=w.aC.set e.at_.toNat (l8 (ab w.aC e.at_.toNat))},!(ab w.aC e.at_.toNat).up):=by unfold fG;rw[if_pos h]
def aht {w:ai} {e:Ev} (h:e.kind=6):fG w e=({w with aC:=w.aC.set e.at_.toNat (mE (ab w.aC e.at_.toNat))},(ab w.aC e.at_.toNat).up):=by unfold fG;rw[if_neg om,if_pos h]
def ahu {w:ai} {e:Ev} (h:e.kind=8):fG w e=({w with al:=eN w.al (ic (ab w.aC e.at_.toNat))},(ab w.aC e.at_.toNat).up):=by unfold fG;rw[if_neg om,if_neg om,if_pos h]
def ahv {w:ai} {e:Ev} (h7:¬e.kind=7) (h6:¬e.kind=6) (h8:¬e.kind=8) (hm:(fF (ab w.aC e.at_.toNat) e.slot).2.2=true):fG w e=({w with aC:=w.aC.set e.at_.toNat (fF (ab w.aC e.at_.toNat) e.slot).1,al:=eN w.al [(fF (ab w.aC e.at_.toNat) e.slot).2.1]},(fF (ab w.aC e.at_.toNat) e.slot).2.2):=by
 unfold fG;rw[if_neg h7,if_neg h6,if_neg h8,if_pos (GJ hm),LY (GJ hm)]
def ahw {w:ai} {e:Ev} (h7:¬e.kind=7) (h6:¬e.kind=6) (h8:¬e.kind=8) (hm:(fF (ab w.aC e.at_.toNat) e.slot).2.2=false):fG w e=({w with aC:=w.aC.set e.at_.toNat (fF (ab w.aC e.at_.toNat) e.slot).1},(fF (ab w.aC e.at_.toNat) e.slot).2.2):=by
 unfold fG;rw[if_neg h7,if_neg h6,if_neg h8,if_neg (by rw[LX hm];simp),afw (LX hm),acQ]
def VW:
 Fn prog 80 [] (dT.av):=by
 refine Fn.go 27 func80 ntmps80 (λW I a U=>?_);refine sr<|U.alloc rfl dP dW λb0 I a w U=>?_;refine zt ?_;refine U.o (.bd Ak aZ.nil) λU=>?_;refine U.alloc rfl dP Ak λb1 I a w U=>?_;refine aB λI a w U=>?_;have U:=U.ik (sz:=7) 95;have U:=U.ik (sz:=1) 40;refine aB λI a w U=>?_;refine St.lo (σ:=Nat×Value) (2::(run 11 5 [])) ⟨λ⟨k,p⟩=>[(2,AV.int k)],λ⟨k,p⟩=>[Own.box b0 28 [AV.val (.int .i64 0),AV.rows 7 [],AV.rows 15 [],AV.rows 13 [],AV.rows 1 []],Own.box b1 28 [AV.int 0,AV.val p,AV.val (.slice none 0 0),AV.val (.slice none 0 0),AV.val (.slice none 0 0)],Own.row p 95 7 ((AK k).map Server.cells),Own.row (.slice none 0 0) 40 1 []],λ⟨k,p⟩=>k<=4⟩ (λ⟨k,p⟩=>4-k) (0,.slice none 0 0) U ?aI ?bF;case aI=>exact Nat.zero_le _
 rintro⟨k,p⟩ I a w ao U;have hk:k<=4:=ao;dsimp only at U;refine aF λI a w U=>?_;refine cz (λae=>?_) λae=>?_
 .refine zt ?_;refine U.dt 5 ?_;simp only[TD];refine dO ?_;refine .o (bO (agl k om) (ax (.t rfl) aH)) ?_;refine .o (.li [(yB k).cells] Fy (.u .nil)) ?_;refine .nil ?_;intro I a w U;refine U.append 2 rfl vi cA rfl .tt .r rfl (by rw[List.length_map,LZ];simp;omega) λm8 a w U=>?_;refine U.o .fv λU=>?_;try have Un:=U.fI 2 rfl
  refine aB λI a w U=>?_;rw[cJ] at U;refine aR λI a w U=>?_;exact U.ag (k+1,m8) (by show k+1<=4;omega)
 refine zt ?_;refine aB λI a w U=>?_;refine St.lo (σ:=Nat×Value) (3::(run 10 16 [])) ⟨λ⟨j,r⟩=>[(3,AV.int j)],λ⟨j,r⟩=>[Own.box b0 28 [AV.val (.int .i64 0),AV.rows 7 [],AV.rows 15 [],AV.rows 13 [],AV.rows 1 []],Own.box b1 28 [AV.int 0,AV.val p,AV.val (.slice none 0 0),AV.val (.slice none 0 0),AV.val r],Own.row p 95 7 ((AK k).map Server.cells),Own.row r 40 1 ((FY j).map gy)],λ⟨j,r⟩=>j<=2⟩ (λ⟨j,r⟩=>2-j) (0,.slice none 0 0) U ?eo ?jK;case eo=>exact Nat.zero_le _
 rintro⟨j,r⟩ I a w ao U;have hj:j<=2:=ao;dsimp only at U;refine aF λI a w U=>?_;refine cz (λah=>?_) λah=>?_
 .refine aG λI a w U=>?_;refine U.l0 λb22 I a w U=>?_;obtain⟨I,U⟩:=U.fr 4 22;refine U.o (.li [gy []] JQ (.v .nil)) λU=>?_;refine U.append 3 rfl Cz qz rfl .tt .r rfl (by rw[List.length_map,Sj];simp;omega) λoh a w U=>?_;rw[cJ] at U;refine U.o .fv λU=>?_;try have aeN:=U.fI 3 rfl
  refine aX λI a w U=>?_;have U:=U.drop 4;exact U.ag (j+1,oh) (by show j+1<=2;omega)
 refine wp_exit<|cB<|cB<|fo<|bm<|wp_seq ?_;have A7:k=4:=by omega
 have pZ:j=2:=by omega
 subst A7;subst pZ;obtain⟨I,U⟩:=U.fu 2 1 1;obtain⟨I,U⟩:=U.fu 3 4 1;have U:=U.nY (q:=2) 1 rfl rfl (fN 15 _);have U:=U.nY (q:=3) 1 rfl rfl (fN 13 _);refine aF λI a w U=>?_;refine U.ret rfl (.cons (.sx 0) aV.nil) ?_;rfl
def ahy {x:ai} {e:Ev} (h:((ab x.aC e.at_.toNat).up==(e.kind==7))=true):(fG x e).2=false:=by
 unfold fG;dsimp only;by_cases h7:e.kind=7
 .rw[if_pos h7];rw[h7] at h;simpa using h
 have hu:(ab x.aC e.at_.toNat).up=false:=by rw[show(e.kind==7)=false by simpa using h7] at h;simpa using h
 rw[if_neg h7];split
 .exact hu
 split
 .exact hu
 rw[show nD (ab x.aC e.at_.toNat) e.slot=false by unfold nD;rw[hu];rfl];rfl
def ahz {x:ai} {e:Ev} (h:((ab x.aC e.at_.toNat).up==(e.kind==7))=false) (hk:e.kind=6):fG x e=({x with aC:=x.aC.set e.at_.toNat (mE (ab x.aC e.at_.toNat))},true):=by
 unfold fG;dsimp only;rw[if_neg om,if_pos hk,T4 h om]
def ahA {x:ai} {e:Ev} (h:((ab x.aC e.at_.toNat).up==(e.kind==7))=false) (hk:e.kind=7):fG x e=({x with aC:=x.aC.set e.at_.toNat (l8 (ab x.aC e.at_.toNat))},true):=by
 unfold fG;dsimp only;rw[if_pos hk,aew h hk];rfl
def ahB {x:ai} {e:Ev} (h:((ab x.aC e.at_.toNat).up==(e.kind==7))=false) (hk:e.kind=8):fG x e=({x with al:=eN x.al (ic (ab x.aC e.at_.toNat))},true):=by
 unfold fG;dsimp only;rw[if_neg om,if_neg om,if_pos hk,T4 h om]
def ahC {x:ai} {e:Ev} (hk:e.kind=9) (hm:(fF (ab x.aC e.at_.toNat) e.slot).2.2=true):fG x e=({x with aC:=x.aC.set e.at_.toNat (fF (ab x.aC e.at_.toNat) e.slot).1,al:=eN x.al [(fF (ab x.aC e.at_.toNat) e.slot).2.1]},true):=by
 have h:=GJ hm;rw[LY h];unfold fG;dsimp only;rw[if_neg om,if_neg om,if_neg om,if_pos h]
def ahD {x:ai} {e:Ev} (hk:e.kind=9) (hm:(fF (ab x.aC e.at_.toNat) e.slot).2.2=false):fG x e=(x,false):=by
 unfold fG;dsimp only;rw[if_neg om,if_neg om,if_neg om,if_neg (by rw[LX hm];simp)]
def VX (s:Server) (m:az):(cN s m).2=[]\/qG m=true/\∃x,(cN s m).2=[x]/\wt x=1:=by
 unfold cN;split
 .unfold dh;split
  .rename_i hk;have ha:qG m=true:=by unfold qG;rw[hk];rfl
   unfold gC;split
   .split
    .exact .inr ⟨ha,_,rfl,rfl⟩
    split
    .exact .inr ⟨ha,_,rfl,rfl⟩
    exact .inl rfl
   exact .inl rfl
  split
  .rename_i hk;have ha:qG m=true:=by unfold qG;rw[hk];rfl
   show gR s m=[]\/_/\∃x,gR s m=[x]/\_;unfold gR;split
   .split
    .exact .inr ⟨ha,_,rfl,rfl⟩
    split
    .exact .inr ⟨ha,_,rfl,rfl⟩
    exact .inl rfl
   exact .inl rfl
  split
  .rename_i hk;have ha:qG m=true:=by unfold qG;rw[hk];rfl
   unfold gu;split
   .dsimp only;split
    .split
     .exact .inr ⟨ha,_,rfl,rfl⟩
     exact .inl rfl
    exact .inr ⟨ha,_,rfl,rfl⟩
   exact .inl rfl
  split
  .exact .inl rfl
  split
  .rename_i hk;have ha:qG m=true:=by unfold qG;rw[hk];rfl
   show lz s m=[]\/_/\∃x,lz s m=[x]/\_;unfold lz;split
   .exact .inr ⟨ha,_,rfl,rfl⟩
   exact .inl rfl
  split
  .exact .inl rfl
  split
  .rename_i hk;have ha:qG m=true:=by unfold qG;rw[hk];rfl
   unfold gq;split
   .split
    .exact .inr ⟨ha,_,rfl,rfl⟩
    split
    .exact .inr ⟨ha,_,rfl,rfl⟩
    exact .inl rfl
   exact .inl rfl
  split
  .exact .inl rfl
  exact .inl rfl
 exact .inl rfl
def ahE {s:Server} (h:dI s<0) (m:az):dI (cN s m).1<0:=by
 unfold cN;split
 .unfold dh;split
  .unfold gC;split
   .split
    .exact h
    split
    .exact Bb _
    exact h
   exact h
  split
  .exact h
  split
  .unfold gu;split
   .dsimp only;split
    .split
     .exact Bb _
     exact h
    exact Bb _
   exact h
  split
  .show dI (jw s m)<0;unfold jw;split
   .exact DI h rfl rfl λv _=>C0 (λe=>e) λd _=>Dx rfl λd hd=>hd
   exact h
  split
  .exact h
  split
  .show dI (ib s m)<0;unfold ib;split
   .exact Bb _
   exact h
  split
  .unfold gq;split
   .split
    .exact h
    split
    .exact Bb _
    exact h
   exact h
  split
  .show dI (jL s m)<0;unfold jL;split
   .exact Bb _
   exact h
  exact h
 exact h
def ahF (s:Server) (m:az):(cN s m).1.up=s.up:=by
 unfold cN;split
 .unfold dh;split
  .unfold gC;split
   .split
    .rfl
    split
    .exact AS _
    rfl
   rfl
  split
  .rfl
  split
  .unfold gu;split
   .dsimp only;split
    .split
     .exact AS _
     rfl
    exact AS _
   rfl
  split
  .unfold jw;split<;>rfl
  split
  .rfl
  split
  .unfold ib;split
   .exact AS _
   rfl
  split
  .unfold gq;split
   .split
    .rfl
    split
    .exact AS _
    rfl
   rfl
  split
  .unfold jL;split
   .exact AS _
   rfl
  rfl
 rfl
def MO (s:Server) (m:az):∀y∈(cN s m).2,y.kind=m.kind+1:=by
 have one:∀{x:az},x.kind=m.kind+1->∀y∈[x],y.kind=m.kind+1:=λh y hy=>by
  obtain rfl:=List.mem_singleton.1 hy;exact h
 have none:∀y∈([]:List az),y.kind=m.kind+1:=λy hy=>by simp at hy
 unfold cN;split
 .unfold dh;split
  .rename_i hk;unfold gC;split
   .split
    .exact one (by rw[hk];rfl)
    split
    .exact one (by rw[hk];rfl)
    exact none
   exact none
  split
  .rename_i hk;show∀y∈gR s m,_;unfold gR;split
   .split
    .exact one (by rw[hk];rfl)
    split
    .exact one (by rw[hk];rfl)
    exact none
   exact none
  split
  .rename_i hk;unfold gu;split
   .dsimp only;split
    .split
     .exact one (by rw[hk];rfl)
     exact none
    exact one (by rw[hk];rfl)
   exact none
  split
  .exact none
  split
  .rename_i hk;show∀y∈lz s m,_;unfold lz;split
   .exact one (by rw[hk];rfl)
   exact none
  split
  .exact none
  split
  .rename_i hk;unfold gq;split
   .split
    .exact one (by rw[hk];rfl)
    split
    .exact one (by rw[hk];rfl)
    exact none
   exact none
  split
  .exact none
  exact none
 exact none
def MP {s:Server}:∀m∈ic s,5<=m.kind:=by
 intro m hm;unfold ic at hm;split at hm
 .rcases List.mem_append.1 hm with hm|hm
  .rcases List.mem_append.1 hm with hm|hm
   .obtain⟨_,_,rfl⟩:=List.mem_map.1 hm;show(5:Int)<=9;decide
   obtain⟨l,h1,h2⟩:=List.mem_flatten.1 hm;obtain⟨d,_,rfl⟩:=List.mem_map.1 h1;unfold jN at h2;split at h2
   .rcases List.mem_cons.1 h2 with rfl|h2
    .exact Int.le_refl _
    obtain rfl:=List.mem_singleton.1 h2;exact Int.le_refl _
   simp at h2
  obtain⟨_,_,rfl⟩:=List.mem_map.1 hm;show(5:Int)<=7;decide
 simp at hm
end Go.Proofs.YtldbakcpcfdlaaaGreat
