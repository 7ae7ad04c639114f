/- Part 22: contracts of functions, plain facts. -/
import Derived.Test.YtldbakcpcfdlaaaGreatA16
import Derived.Test.YtldbakcpcfdlaaaGreatA17
set_option linter.all false
set_option maxRecDepth 100000
set_option maxHeartbeats 4000000
namespace Go.Proofs.YtldbakcpcfdlaaaGreat
open Go Go.RowKit Tryz
attribute [local irreducible] wpList Code.wp Ok
def ui (s:Server):
 Fn prog 66 [s.av] (AV.bool (gL s)):=by
 refine Fn.go 127 func66 ntmps66 (λW I a U=>?_);have lens:s.aN.length<=9223372036854775807/\s.ar.length<=9223372036854775807/\s.waits.length<=9223372036854775807/\s.aE.length<=9223372036854775807:=⟨U.ln 0 2,U.ln 0 3,U.ln 0 4,U.ln 0 5⟩;refine bj λI a w U=>?_;refine U.o (.c1 (rV ..)) λU=>?_;refine rI λI a w U=>?_;refine U.q .F (.cl (yH ..)) λU=>?_;refine bK λI a w U=>?_;refine U.q .F (.cl (yH ..)) λU=>?_;refine bK λI a w U=>?_;refine U.q .F (.cl (FW ..)) λU=>?_;refine bK λI a w U=>?_;refine U.q .F (.cl (FW ..)) λU=>?_;refine Ad λI a w U=>?_;refine U.cd (λae=>?_) λae=>?_
 .rw[Az] at ae;replace ae:=nt ae;refine bk ?_;exact bI (by unfold gL;rw[ae];rfl)
 rw[Az] at ae;replace ae:=nf ae;obtain⟨xL,tl,En,Uy,Uz,Eo⟩:=Ek ae;refine aV λI a w U=>?_;refine St.lo (σ:=Nat) (2::(4::(run 25 57 []))) ⟨λk1=>[(57,AV.int k1)],λk1=>[],λk1=>k1<=s.aN.length/\∀i,i<k1->(py s) i=true⟩ (λk1=>s.aN.length-k1) 0 U ?aH ?bx;case aH=>exact⟨Nat.zero_le _,λi hi=>by omega⟩
 rintro k1 I a w al U;obtain⟨UA,tm⟩:=al;refine ao λI a w U=>?_;refine cz (λah=>?_) λah=>?_
 .refine aF λI a w U=>?_;refine U.alloc rfl dR mr λb4 I a w U=>?_;refine ao λI a w U=>?_;obtain⟨I,U⟩:=U.fb 0 4;refine aF λI a w U=>?_;refine U.o (.cl (ij ..)) λU=>?_;refine bj λI a w U=>?_;refine U.q .F (.cl (ij ..)) λU=>?_;refine vh λI a w U=>?_;refine U.cd (λaj=>?_) λaj=>?_
  .rw[Ej] at aj;replace aj:=nt aj;refine bk ?_;exact bI (by unfold gL;rw[ae,eX (f:=py s) ah aj];simp)
  rw[Ej] at aj;replace aj:=nf aj;refine aq λI a w U=>?_;have U:=U.drop 0;exact U.ag (k1+1) (⟨by omega,fO tm aj⟩)
 refine zt ?_;refine aV λI a w U=>?_;refine St.lo (σ:=Nat) (2::(6::(run 10 85 []))) ⟨λk2=>[(85,AV.int k2)],λk2=>[],λk2=>k2<=s.ar.length/\∀i,i<k2->(qB s) i=true⟩ (λk2=>s.ar.length-k2) 0 U ?dC ?iJ;case dC=>exact⟨Nat.zero_le _,λi hi=>by omega⟩
 rintro k2 I a w al U;obtain⟨vC,iK⟩:=al;refine ao λI a w U=>?_;refine cz (λaG=>?_) λaG=>?_
 .refine aF λI a w U=>?_;refine U.alloc rfl bL dy λb6 I a w U=>?_;refine ao λI a w U=>?_;obtain⟨I,U⟩:=U.fb 0 6;refine bc λI a w U=>?_;refine U.o (.c2 (EP _ _ (nT (rO tl aG)) xL)) λU=>?_;refine ao λI a w U=>?_;refine U.cd (λaK=>?_) λaK=>?_
  .rw[MS] at aK;replace aK:=nt aK;refine bk ?_;exact bI (by unfold gL;rw[ae,eO tm om,eX (f:=qB s) aG aK];simp)
  rw[MS] at aK;replace aK:=nf aK;refine aq λI a w U=>?_;have U:=U.drop 0;exact U.ag (k2+1) (⟨by omega,fO iK aK⟩)
 refine zt ?_;refine aV λI a w U=>?_;refine St.lo (σ:=Nat) (2::(8::(run 24 98 []))) ⟨λk3=>[(98,AV.int k3)],λk3=>[],λk3=>k3<=s.waits.length/\∀i,i<k3->(pz s) i=true⟩ (λk3=>s.waits.length-k3) 0 U ?fU ?kT;case fU=>exact⟨Nat.zero_le _,λi hi=>by omega⟩
 rintro k3 I a w al U;obtain⟨K8,rS⟩:=al;refine ao λI a w U=>?_;refine cz (λbh=>?_) λbh=>?_
 .refine aF λI a w U=>?_;refine U.alloc rfl bL dy λb8 I a w U=>?_;refine ao λI a w U=>?_;obtain⟨I,U⟩:=U.fb 0 8;refine U.dk ?_;refine dw ?_;refine .o (.c2 (EP _ _ (nT (rO En bh)) xL)) ?_;refine dq ?_;refine .q .F (.cl (ER ..)) ?_;refine gw ?_;refine .q .F (.cl (mF ..)) ?_;refine .q .F (.cl (pQ ..)) ?_;refine cg ?_;refine .nil ?_;intro I a w U;refine ba ?_;refine U.cd (λaZ=>?_) λaZ=>?_
  .rw[MT] at aZ;replace aZ:=nt aZ;refine bk ?_;exact bI (by unfold gL;rw[ae,eO tm om,eO iK om,eX (f:=pz s) bh aZ];simp)
  rw[MT] at aZ;replace aZ:=nf aZ;refine aq λI a w U=>?_;have U:=U.drop 0;exact U.ag (k3+1) (⟨by omega,fO rS aZ⟩)
 refine zt ?_;refine bj λI a w U=>?_;refine U.o (.cl (XN ..)) λU=>?_;refine bk ?_;exact bI (by unfold gL;rw[ae,eO tm om,eO iK om,eO rS om];simp)
def uj (c:Call) (time:Int):eY c time=(ov c time&&vX c&&cT c.az.length (rX c)&&AX c&&cT c.aL.length (sf c)&&AY c time):=by
 have e0:aQ c.aA 0 1=eN c.aA:=rfl;cases kj:ie c
 .have h1:eY c time=false:=by simp[eY,ko,kj]
  have h2:ov c time=false:=by
   rw[<-M4] at kj;unfold ov;cases h3:aQ c.kind 1 2
   .simp
   rw[h3,Bool.true_and] at kj;rw[kj];simp
  rw[h1,h2];simp
 have BC:jK c.keys=true:=by unfold ie at kj;rw[Bool.and_eq_true] at kj;exact kj.1
 have wz:=kj;rw[<-M4,Bool.and_eq_true] at wz;have OL:c.kind=1\/c.kind=2:=by have:=wz.1;simp[aQ] at this;omega
 have e1:cT c.az.length (rX c)=lM c:=xj rfl λi _=>Ym BC i;rw[e1];cases hg:lM c
 .simp[eY,ko,nb,hg]
 have hle:=FH BC hg;cases dU:bP c.aL
 .simp[eY,ko,ov,dU]
 have e2:cT c.aL.length (sf c)=cT c.aL.length (nY c):=xj rfl λi hi=>Yn hg dU hi;rw[e2];unfold eY ko nb vz mz ov vX AX AY;rw[e0,kj,wz.1,wz.2,hg,dU];generalize eN c.aA=b1;generalize aQ c.num 1 99=b2;generalize bP c.ctx=b4;generalize aQ c.bq 1 time=b5;generalize cT c.aL.length (nY c)=b6;generalize aQ c.end_ (c.bq+1) time=b7;have e3:(decide (0<c.val)&&aQ c.val 0 9999)=((c.val !=0)&&aQ c.val 0 9999):=by
  rw[Bool.eq_iff_iff];simp[aQ];omega
 have e4:na c=decide (c.az.length=c.keys.length):=LS _ _;have e5:((c.aL.length:Int)==0)=decide (c.aL.length=0):=Vr _;have e6:decide (0<(c.aL.length:Int))=!decide (c.aL.length=0):=K0 _;have e7:decide ((c.az.length:Int)<c.keys.length)=!decide (c.az.length=c.keys.length):=Vs hle;have e8:decide ((c.keys.length:Int)<c.az.length)=false:=by simp;omega
 have e9:((c.az.length:Int)==c.keys.length)=decide (c.az.length=c.keys.length):=LS _ _;have uk:decide (0<(c.az.length:Int)+c.aL.length)=!(decide (c.az.length=0)&&decide (c.aL.length=0)):=K1 _ _;rw[e4,e5,e6,e7,e8,e9,uk];have yL:jO c.ax=(dW c.ax||c7 c.ax):=rfl;rw[yL];cases hv:aQ c.val 0 9999
 .simp
 rw[hv,Bool.and_true,Bool.and_true] at e3;rw[e3];generalize decide (c.az.length=c.keys.length)=b9;generalize decide (c.az.length=0)=jU;generalize decide (c.aL.length=0)=kr;generalize (c.val !=0)=wj;generalize c.over=ra;by_cases hn:dW c.ax=true
 .have U:c7 c.ax=false:=by
   cases U:c7 c.ax
   .rfl
   have:=rY U;simp[dW] at hn;omega
  rw[hn,U];rcases OL with hh|hh<;>rw[hh]<;>by_cases he:c.end_=0<;>simp[he]<;>revert b1 b2 b4 b5 b6 b7 b9 jU kr wj ra<;>decide
 simp only[Bool.not_eq_true] at hn;rw[hn];generalize c7 c.ax=BR;rcases OL with hh|hh<;>rw[hh]<;>by_cases he:c.end_=0<;>simp[he]<;>revert b1 b2 b4 b5 b6 b7 b9 jU kr wj BR ra<;>decide
def B0 (q:Call) (time:Int) (ht:time<=4611686018427387904) (sw:q.az.length<=1048576):
 Fn prog 169 [q.av,AV.int time] (AV.bool (eY q time)):=by
 refine Fn.go 240 func169 ntmps169 (λW I a U=>?_);have lens:q.keys.length<=9223372036854775807/\q.az.length<=9223372036854775807/\q.aL.length<=9223372036854775807:=⟨U.ln 0 3,U.ln 0 11,U.ln 0 12⟩;refine bj λI a w U=>?_;refine U.o (.cl (ic ..)) λU=>?_;refine bj λI a w U=>?_;refine U.q .F (.cl (ic ..)) λU=>?_;refine bK λI a w U=>?_;refine U.q .F (.cl (ic ..)) λU=>?_;refine bj λI a w U=>?_;refine U.q .F (.cl (WD ..)) λU=>?_;refine bK λI a w U=>?_;refine U.q .F (.cl (ic ..)) λU=>?_;refine bK λI a w U=>?_;refine U.q .F (.cl (m7 ..)) λU=>?_;refine bK λI a w U=>?_;refine U.q .F (.cl (m7 ..)) λU=>?_;refine dp λI a w U=>?_;refine U.q .F (.cl (ic ..)) λU=>?_;refine aq λI a w U=>?_;refine U.cd (λae=>?_) λae=>?_
 .replace ae:ov q time=false:=by unfold ov;rw[ae];rfl
  refine bk ?_;exact bI (by rw[uj];rw[ae];rfl)
 replace ae:ov q time=true:=by unfold ov;rw[ae];rfl
 refine rI λI a w U=>?_;refine U.q .T (jW .ag .ag (λhg=>by have:=M9 ae;omega)) λU=>?_;refine tc λI a w U=>?_;refine U.q .F2 (.bd gx aT.nil) λU=>?_;refine U.q .F2 (sR [_,_] [_,_] mu rfl rfl .ag .ag) λU=>?_;refine dp λI a w U=>?_;refine U.q .F (.cl (Mc ..)) λU=>?_;refine Ac λI a w U=>?_;refine U.cd (λah=>?_) λah=>?_
 .rw[Br] at ah;replace ah:vX q=false:=by unfold vX;rw[ah];rfl
  refine bk ?_;exact bI (by rw[uj];rw[ae,ah];rfl)
 rw[Br] at ah;replace ah:vX q=true:=by unfold vX;rw[ah];rfl
 refine ao λI a w U=>?_;refine St.lo (σ:=Nat) (run 2 4 (run 46 98 [])) ⟨λk=>[(5,AV.int k)],λk=>[],λk=>k<=q.az.length/\∀i,i<k->(rX q) i=true⟩ (λk=>q.az.length-k) 0 U ?aH ?bx;case aH=>exact⟨Nat.zero_le _,λi hi=>by omega⟩
 rintro k I a w al U;obtain⟨pE,aU⟩:=al;refine cn λI a w U=>?_;refine cz (λaj=>?_) λaj=>?_
 .refine zt ?_;refine U.dk ?_;refine eP ?_;refine .o (.c1 (Vx ..)) ?_;refine mo ?_;refine .q .F (.cl (M7 ..)) ?_;refine mq ?_;refine gw ?_;refine .nil ?_;intro I a w U;refine ba ?_;refine U.cd (λaG=>?_) λaG=>?_
  .rw[Oj] at aG;replace aG:=nt aG;refine bk ?_;exact bI (by rw[uj];rw[eX (f:=rX q) aj aG];simp)
  rw[Oj] at aG;replace aG:=nf aG;refine aM λI a w U=>?_;exact U.ag (k+1) (⟨by omega,fO aU aG⟩)
 refine zt ?_;refine Ad λI a w U=>?_;refine U.cd (λaK=>?_) λaK=>?_
 .rw[LW] at aK;replace aK:=nt aK;refine bk ?_;exact bI (by rw[uj];rw[aK];simp)
 rw[LW] at aK;replace aK:=nf aK;refine ao λI a w U=>?_;refine St.lo (σ:=Nat) (4::(run 2 6 (run 34 157 []))) ⟨λk2=>[(6,AV.int k2)],λk2=>[],λk2=>k2<=q.aL.length/\∀i,i<k2->(sf q) i=true⟩ (λk2=>q.aL.length-k2) 0 U ?dC ?iJ;case dC=>exact⟨Nat.zero_le _,λi hi=>by omega⟩
 rintro k2 I a w al U;obtain⟨vC,iK⟩:=al;refine cn λI a w U=>?_;refine cz (λbh=>?_) λbh=>?_
 .refine zt ?_;refine U.dk ?_;refine jJ ?_;refine .o (.c2 (Bq ..)) ?_;refine aW ?_;refine .nil ?_;intro I a w U;refine ba<|wp_seq<|U.dk ?_;refine gw ?_;refine .q .F ((by first|exact dE gy eI .ag .ag (λhg=>by have h0:0<=cE q (ab q.aL k2).key:=(by simpa using hg);have:=sg h0;omega)|exact eG gy eI .ag .ag (λhg=>by have h0:0<=cE q (ab q.aL k2).key:=(by simpa using hg);have:=sg h0;omega)|exact eM gy eI .ag .ag (λhg=>by have h0:0<=cE q (ab q.aL k2).key:=(by simpa using hg);have:=sg h0;omega))) ?_;refine vi ?_;refine .q .F (.cl (tj ..)) ?_;refine cg ?_;refine .nil ?_;intro I a w U;refine ba ?_;refine U.cd (λaZ=>?_) λaZ=>?_
  .rw[M8] at aZ;replace aZ:=nt aZ;refine bk ?_;exact bI (by rw[uj];rw[eX (f:=sf q) bh aZ];simp)
  rw[M8] at aZ;replace aZ:=nf aZ;refine aM λI a w U=>?_;exact U.ag (k2+1) (⟨by omega,fO iK aZ⟩)
 refine zt ?_;refine aM λI a w U=>?_;refine cz (λbT=>?_) λbT=>?_
 .refine aF λI a w U=>?_;refine U.o (.bd gx aT.nil) λU=>?_;refine U.o (lF [_,_] [_,_] mu rfl rfl .tt .tt) λU=>?_;refine bk ?_;exact bI (by rw[uj];rw[ae,ah,eO aU om,aK,eO iK om,A2];unfold AY;rw[if_pos bT];rfl)
 refine j3 λI a w U=>?_;refine U.q .T (jW .ag .c (λhg=>by have:=M9 ae;omega)) λU=>?_;refine U.q .T .mv λU=>?_;refine U.q .T (.cl (ic ..)) λU=>?_;refine Sw λI a w U=>?_;refine U.q .T2 (.cl (th ..)) λU=>?_;refine D2 λI a w U=>?_;refine U.rt ?_;exact bI (by rw[uj];rw[ae,ah,eO aU om,aK,eO iK om];unfold AY;rw[if_neg bT];rfl)
def OM (l:List Call) (time:Int) (ht:time<=4611686018427387904) (sw:∀q∈l,q.az.length<=1048576):
 Fn prog 87 [fN l,AV.int time] (AV.bool (iI l time)):=by
 refine Fn.go 98 func87 ntmps87 (λW I a U=>?_);have hle:=U.eh (t:=0) rfl;refine aV λI a w U=>?_;refine cz (λae=>?_) λae=>?_
 .refine bk ?_;exact bI (by unfold iI;rw[Vy ae];simp)
 refine ao λI a w U=>?_;refine St.lo (σ:=Nat) (run 4 4 (run 87 11 [])) ⟨λk=>[(5,AV.int k)],λk=>[],λk=>k<=l.length/\∀i,i<k->(kS l time) i=true⟩ (λk=>l.length-k) 0 U ?aH ?bx;case aH=>exact⟨Nat.zero_le _,λi hi=>by omega⟩
 rintro k I a w al U;obtain⟨pE,aU⟩:=al;refine aV λI a w U=>?_;refine cz (λah=>?_) λah=>?_
 .refine zt ?_;refine U.dk ?_;refine eP ?_;refine .o (.c2 (B0 _ _ ht (sw _ (bB ah)))) ?_;refine mq ?_;refine dw ?_;refine .nil ?_;intro I a w U;refine ba ?_;refine U.cd (λaj=>?_) λaj=>?_
  .rw[Mm] at aj;replace aj:=nt aj;refine bk ?_;exact bI (by unfold iI;rw[eX (f:=kS l time) ah (by rw[Bt,aj];rfl)];rfl)
  rw[Mm] at aj;replace aj:=nf aj;refine aq λI a w U=>?_;refine St.lo (σ:=Nat) (4::(run 2 6 (run 48 42 []))) ⟨λk2=>[(7,AV.int k2),(6,AV.int (fT l k2 (ab l k).aA))],λk2=>[],λk2=>k2<=k/\∀i,i<k2->(λj=>!kq (ab l j) (ab l k)) i=true⟩ (λk2=>k-k2) 0 U ?dC ?iJ;case dC=>exact⟨Nat.zero_le _,λi hi=>by omega⟩
  rintro k2 I a w al U;obtain⟨vC,iK⟩:=al;refine aM λI a w U=>?_;refine cz (λaG=>?_) λaG=>?_
  .refine ao λI a w U=>?_;refine cz (λaK=>?_) λaK=>?_
   .refine zt ?_;refine aM λI a w U=>?_;refine U.again (k2+1) ?ik ?il ef ?im (by repeat(first|exact Env.le_rfl|refine Env.iB rfl ?_));case ik=>omega
    case il=>exact⟨by omega,fO iK (by show(!kq (ab l k2) (ab l k))=true;rw[WG aK];rfl)⟩
    case im=>exact(Env.dM rfl ef (Env.dM rfl (by first|exact congrArg AV.int (by rw[qM om,if_neg aK])|exact congrArg AV.int (by rw[LX (aU k2 om),show(ab l k2).aA=(ab l k).aA by omega])) Env.le_nil))
   refine ib λI a w U=>?_;refine U.cd (λbh=>?_) λbh=>?_
   .rw[Na om] at bh;refine bk ?_;exact bI (by unfold iI;rw[eX (f:=kS l time) ah (by rw[Bt,eX (f:=λj=>!kq (ab l j) (ab l k)) (k:=k2) om (by rw[bh];rfl)];simp)];rfl)
   rw[Na om] at bh;refine aM λI a w U=>?_;refine U.again (k2+1) ?ox ?oz ef ?oA (by repeat(first|exact Env.le_rfl|refine Env.iB rfl ?_));case ox=>omega
   case oz=>exact⟨by omega,fO iK (by show(!kq (ab l k2) (ab l k))=true;rw[bh];rfl)⟩
   case oA=>exact(Env.dM rfl ef (Env.dM rfl (by first|exact congrArg AV.int (by rw[qM om,if_neg aK])|exact congrArg AV.int (by rw[LX (aU k2 om),show(ab l k2).aA=(ab l k).aA by omega])) Env.le_nil))
  refine zt ?_;refine dp λI a w U=>?_;refine U.o (jW .tt .c (λ_=>by have:=Bb l k2 (ab l k).aA;omega)) λU=>?_;refine ao λI a w U=>?_;refine cz (λaZ=>?_) λaZ=>?_
  .refine bk ?_;exact bI (by unfold iI;rw[eX (f:=kS l time) ah (by rw[Bt,qM ah,if_pos rfl,show((ab l k).num==fT l k (ab l k).aA+1)=false by(rw[show k2=k by omega] at aZ;simpa using aZ)];simp)];rfl)
  refine aM λI a w U=>?_;exact U.ag (k+1) (⟨by omega,fO aU (by rw[Bt,aj,eO iK om];simp only[Bool.true_and,Bool.and_true,beq_iff_eq];rw[qM ah,if_pos rfl];rw[show k2=k by omega] at aZ;omega)⟩)
 refine zt ?_;refine bk ?_;exact bI (by unfold iI;rw[eO aU om];simp;omega)
def dQ.nC {q:Call} {t:Int} (h:dQ q t) (hw:g0 q=true) (hb:q.bq<t) (hk:q.kind≠1) {a:Answer} (ha:dH a=true) (iT:gz q.keys a.key=true) (hn:cE q a.key<0):dQ (nC q a t) t:=by
 obtain⟨he,ho⟩:=wa hw;obtain⟨sB,cj⟩:=FZ h iT hn;have bH:∀x∈q.az,x.key≠a.key:=λx hx e=>by
  have:=Bi (q:=q) (key:=a.key).2 ⟨x,hx,e⟩;omega
 have bX:dW q.ax=true:=h.open_ he;have sk:∀x∈df q.az a,dH x=true:=λx hx=>by
  rcases tv.1 hx with rfl|hx
  .exact ha
  exact h.cH x hx
 have tX:∀x∈df q.az a,gz q.keys x.key=true:=λx hx=>by
  rcases tv.1 hx with rfl|hx
  .exact iT
  exact h.has x hx
 have rh:=ES h.sorted bH;have h1:dQ {q with az:=df q.az a} t:=
  ⟨h.aA,h.num,h.keys,h.val,h.ctx,h.aL,h.bq,h.fits,tX,rh,sk,λd hd=>by have:d∈q.aL:=hd;rw[sB] at this;simp at this,.inl sB,λe=>absurd e hk,h.read,h.open_,λe=>absurd he e⟩
 unfold Go.Proofs.YtldbakcpcfdlaaaGreat.nC;dsimp only;split
 .exact h1
 rename_i hlen;have hl:(df q.az a).length=q.keys.length:=by rw[tw];have:¬(df q.az a).length<q.keys.length:=hlen;rw[tw] at this;omega
 have BP:∀key,qN (cv (eL {q with az:=df q.az a}) key):=λkey=>by
  have:=(rf (l:=df q.az a) (acc:=[]) rfl sk);exact rb this.1 key
 have dU:bP (ka {q with az:=df q.az a})=true:=FM _ BP rh (λx hx=>by have:=X0 h (tX x hx);omega) sk;have BE:∀d∈ka {q with az:=df q.az a},qL {q with az:=df q.az a} d=true:=λd hd=>by
  obtain⟨x,hx,e,ON⟩:=WN hd;refine(FL rh).2 ⟨x,hx,by rw[e],?_⟩;unfold my;rw[ON];simp
 unfold lR;split
 .rename_i h0;have h0:q.aL++ka {q with az:=df q.az a}=[]:=h0;exact⟨h.aA,h.num,h.keys,h.val,h.ctx,by show bP (q.aL++_)=true;rw[h0];rfl,h.bq,h.fits,tX,rh,sk,λd hd=>by have:d∈q.aL++_:=hd;rw[h0] at this;simp at this,.inl h0,λe=>absurd e hk,h.read,λ_=>bX,
   λ_=>⟨ho,⟨by show q.bq+1<=t;omega,Int.le_refl _⟩,h0,λe=>absurd e hk,λ_=>hl⟩⟩
 exact⟨h.aA,h.num,h.keys,h.val,h.ctx,by show bP (q.aL++_)=true;rw[sB];exact dU,h.bq,h.fits,tX,rh,sk,λd hd=>BE d (by have:d∈q.aL++_:=hd;rwa[sB] at this),.inr hl,λe=>absurd e hk,h.read,h.open_,λe=>absurd he e⟩
def B1 {q:Call} {m:aw} {t:Int} (h:dQ q t):dQ (dJ q m t) t:=by
 unfold dJ;split
 .rename_i hc;simp only[Bool.and_eq_true,decide_eq_true_eq] at hc;obtain⟨⟨⟨⟨⟨hm,_⟩,_⟩,iT⟩,hw⟩,hb⟩:=hc;obtain⟨he,ho⟩:=wa hw;split
  .rename_i hk;split
   .rename_i U;obtain⟨hg,sB⟩:=h.put hk;exact⟨h.aA,h.num,h.keys,h.val,h.ctx,h.aL,h.bq,yp U.2,h.has,h.sorted,h.cH,h.vI,h.full,h.put,λe=>absurd hk e,λe=>by have:t=0:=e;have:=h.bq;omega,
     λ_=>⟨ho,⟨by show q.bq+1<=t;omega,Int.le_refl _⟩,sB,λ_=>VC U.2,λe=>absurd hk e⟩⟩
   exact h
  rename_i hk;unfold jz;split
  .rename_i hr;have hg:=E1 (q:=q) hm hr.2;split
   .rename_i hn;split
    .exact h.nC hw hb hk hg iT hn
    exact h
   split
   .rename_i hy;exact h.np hw hb hk hg hy
   exact h
  exact h
 exact h
def Zr (q:Call) (m:aw) (t:Int):(dJ q m t).aA=q.aA/\(dJ q m t).num=q.num/\(dJ q m t).bq=q.bq/\(dJ q m t).over=q.over/\(dJ q m t).ctx=q.ctx/\(dJ q m t).keys=q.keys/\(dJ q m t).kind=q.kind:=by
 have e:∀q':Call,∀t,(lR q' t).aA=q'.aA/\(lR q' t).num=q'.num/\(lR q' t).bq=q'.bq/\(lR q' t).over=q'.over/\(lR q' t).ctx=q'.ctx/\(lR q' t).keys=q'.keys/\(lR q' t).kind=q'.kind:=λq' t=>by
  unfold lR;split<;>exact⟨rfl,rfl,rfl,rfl,rfl,rfl,rfl⟩
 unfold dJ jz nC np;dsimp only;repeat' split
 all_goals first|exact⟨rfl,rfl,rfl,rfl,rfl,rfl,rfl⟩|exact e _ _
set_option maxHeartbeats 8000000 in
def wA (s:Server) (al:dZ s) (ho:s.aE.length<=80):
 Fn prog 350 [s.av] ((gW s).av):=by
 refine Fn.go 40 func350 ntmps350 (λW I a U=>?_);have uJ:=al;have gF:=al.small om;refine bw λI a w U=>?_;refine U.alloc rfl ck c9 λb2 I a w U=>?_;refine bw λI a w U=>?_;refine U.bz [] (ym s gF) (ai .tt aB) rfl aO rfl λ⟨vS,vV,vW,vO,vK⟩ I a w BG U=>?_;refine U.alloc rfl ck c9 λb3 I a w U=>?_;refine U.sb 6 λU=>?_;refine wpList_nil ?_;obtain⟨I,U⟩:=U.fu 1 2 6;obtain⟨I,U⟩:=U.fu 2 3 6;obtain⟨I,U⟩:=U.fu 4 5 6;refine ba ?_;refine St.cut (σ:=Server×Value) (4::(run 26 7 [])) ⟨λ⟨x,u⟩=>[],λ⟨x,u⟩=>[Own.box b2 95 [AV.val (.int .i64 0),AV.val (.bool false),AV.rows 2 [],AV.rows 7 [],AV.rows 7 [],AV.rows 3 [],AV.rows 3 []],Own.gone,Own.gone,Own.row u 54 7 (x.waits.map aD.cells),Own.gone,Own.row vK 125 3 (x.bn.map an.cells),Own.box b3 95 [AV.int x.site,AV.bool x.up,qj x.aN,bV x.ar,AV.val u,bf x.aE,AV.val vK]],λ⟨x,u⟩=>dZ x/\ig x=ig s/\x.aE=s.aE/\eK x<0⟩ U ?um ?Gu;case um=>
  refine wp_block ?_;refine St.lo (σ:=Server×Value) (4::(run 26 7 [])) ⟨λ⟨x,u⟩=>[],λ⟨x,u⟩=>[Own.box b2 95 [AV.val (.int .i64 0),AV.val (.bool false),AV.rows 2 [],AV.rows 7 [],AV.rows 7 [],AV.rows 3 [],AV.rows 3 []],Own.gone,Own.gone,Own.row u 54 7 (x.waits.map aD.cells),Own.gone,Own.row vK 125 3 (x.bn.map an.cells),Own.box b3 95 [AV.int x.site,AV.bool x.up,qj x.aN,bV x.ar,AV.val u,bf x.aE,AV.val vK]],λ⟨x,u⟩=>dZ x/\ig x=ig s/\x.aE=s.aE⟩ (λ⟨x,u⟩=>x.waits.length) (s,vW) U ?aH ?bx;case aH=>exact⟨al,rfl,rfl⟩
  rintro⟨x,u⟩ I a w al U;obtain⟨hx,kG,so⟩:=al;dsimp only at U;have pR:=qF hx.ar;have Zs:=qF hx.waits;have mW:=fV hx.ar;have jM:=fV hx.waits;refine aV λI a w U=>?_;refine cz (λae=>?_) λae=>?_
  .refine aF λI a w U=>?_;refine U.o (mb (ai .tt aB)) λU=>?_;refine U.o (z8 (xs:=[AV.val u,AV.fn 362 [AV.val (.pointer (some ⟨b3,0,none⟩))]]) (pr:=[bV x.waits,AV.fn 362 [AV.ptr x.cells]]) (Fs x.waits (j5 x) _ (λv hv=>Fn.val (X9 x v hx.aN (nT (gP hx.waits v hv))))) (ai .tt (ai .tt aB)) (λc I a w U=>by obtain⟨I,U,hf⟩:=U.ph 3 rfl;have U:=U.qf (q:=4) 6 rfl rfl hf;have U:=U.sQ (t:=0) rfl hf;obtain⟨I,U⟩:=U.fu 5 6 6;obtain⟨I,U⟩:=U.fc 6 1 0;exact⟨_,_,_,U,rfl,rfl,trivial⟩)) λU=>?_;refine ao λI a w U=>?_;have hid:eK x=di (j5 x) x.waits:=Vd om;refine aq λI a w U=>?_;refine cz (λah=>?_) λah=>?_
   .refine zt ?_;exact U.me (x,u) (by first|exact⟨hx,kG,so,MG om⟩|exact⟨hx,kG,so,by omega⟩)
   have m1:0<=eK x:=by omega
   obtain⟨uZ,nd,lH⟩:=xO m1;have OO:=hx.vG m1;have mE:=Lc m1;obtain⟨n,hn⟩:∃n:Nat,(eK x).toNat=n:=⟨_,rfl⟩;rw[hn] at uZ OO mE lH;rw[show di (j5 x) x.waits=(n:Int) by omega] at U;refine zt ?_;obtain⟨bu,cu,rfl⟩:=U.gv 3 rfl gG;refine U.dt 9 ?_;simp only[TD];refine eP ?_;refine .o (fj dA bL .tt .tt (λ_=>by rw[List.length_map];omega)) ?_;refine .o (pg 3 bL .tt rfl (λ_=>by exact dL uZ) rfl) ?_;refine .o (cq (FY x.ar (ab x.waits n) om (λy hy=>by have:=pR y hy;omega) (by have:=Zs _ (bB uZ);omega)) (ai .r (ai (.t rfl) aB))) ?_;refine aW ?_;refine .nil ?_;intro I a w U;refine U.s1 6 λU=>?_;refine bK λI a w U=>?_;refine U.bz [3] (U7 _ (x.waits.map aD.cells) n (by rw[List.length_map];exact uZ) gG (λr hr=>by obtain⟨y,_,rfl⟩:=List.mem_map.1 hr;rfl)) (ai .r (ai .tt (ai .tt aB))) rfl aO rfl λu2 I a w B2 U=>?_;rw[<-List.map_take,<-List.map_drop,<-List.map_append] at U;refine U.o .fv λU=>?_;try have ai9:=U.dK 3 rfl
   refine U.s1 6 λU=>?_;refine zt ?_;exact U.ag (lO x n,u2) (⟨OO,mE.symm.trans kG,so⟩) (hμ:=by show(lO x n).waits.length<x.waits.length;rw[Ew uZ];omega)
  refine zt ?_;exact U.me (x,u) (by first|exact⟨hx,kG,so,MG om⟩|exact⟨hx,kG,so,by omega⟩)
 rintro⟨x,u⟩ I a w al U;obtain⟨hx,kG,so,BK⟩:=al;dsimp only at U;have mE:=Vc kG BK;have Zt:ou {x with bn:=x.bn.filter λd=>!(!gV x d)}:=by rw[<-mE];exact(uJ.settle).small (by rw[(xY s).2.2.2];omega)
 refine wp_seq ?_;obtain⟨I,U⟩:=U.fu 3 4 6;refine aF λI a w U=>?_;refine U.o (mb (ai .tt aB)) λU=>?_;refine U.bz [5,6] (F0 vK x.bn (λd=>!gV x d) _ (Own.box b3 95 [AV.int x.site,AV.bool x.up,qj x.aN,bV x.ar,bV x.waits,bf x.aE,AV.val vK]) (by have:=hx.bn;omega) (λd hd=>fQ.val (Xw b3 x (AV.val vK) d))) (ai .r (ai .tt aB)) rfl aO rfl λyM I a w lY U=>?_;refine U.o .fv λU=>?_;try have aja:=U.dK 5 rfl
 refine U.s1 6 λU=>?_;refine nn<|wp_seq ?_;obtain⟨I,U⟩:=U.fu 5 6 6;refine bw λI a w U=>?_;refine U.o (.c1 (qR {x with bn:=x.bn.filter λd=>!(!gV x d)} Zt)) λU=>?_;refine ao λI a w U=>?_;refine U.ret rfl (.cons (.sx 0) aX.nil) ?_;exact(by rw[mE];rfl)
def Zu (s:Server) (m:aw) (hg:bA s) (hm:bQ m=true) (hf:((m.aY==eS s.site)&&decide (1<=m.bU))=true):
 Fn prog 351 [s.av,m.av] (AV.c6 [(g8 s m).1.av,cU (g8 s m).2]):=by
 refine Fn.go 106 func351 ntmps351 (λW I a U=>?_);have al:=iL.2 hg;have cK:=hg.ok;have gF:=hg.small;have jM:=mD hm;have ot:=AQ hm;have lens:m.aS.length<=9223372036854775807/\m.ar.length<=9223372036854775807/\m.waits.length<=9223372036854775807/\m.aE.length<=9223372036854775807:=⟨U.ln 1 9,U.ln 1 12,U.ln 1 13,U.ln 1 14⟩;have h3:=hg.aN;have mc:=cK.drop m.slot;have Zp:=gZ (hg.eb m.slot).aE;have JW:=gZ jM.2.2.1;have Zn:=fV mc.ar;have Zo:=fV mc.waits;have e9:∀x,x=cI.cells ⟨m.bU,1⟩->(List.map cI.cells s.aN).set m.slot.toNat x=List.map cI.cells ((eb s m.slot).aN.set m.slot.toNat ⟨m.bU,1⟩):=λx h=>by rw[h];exact List.map_set.symm
 refine aF λI a w U=>?_;refine U.alloc rfl ck c9 λb4 I a w U=>?_;refine fm λI a w U=>?_;refine U.o (.bd dr (.k (.k (.k aT.nil)))) λU=>?_;refine U.o (.c3 (qT s m ⟨10,0,0,0,0,⟨0,0⟩,0,false,[],m.slot,m.bU,[],[],[]⟩ (tP ..))) λU=>?_;refine aq λI a w U=>?_;refine cz (λae=>?_) λae=>?_
 .refine aV λI a w U=>?_;refine U.ret rfl (.cons (.sx 0) (.cons .x aX.nil)) ?_;exact(by rw[Om hf om];rfl)
 refine bc λI a w U=>?_;refine U.bz [] (Ol s m.slot gF) (ai .tt (ai .tt aB)) rfl aO rfl λvS I a w yN U=>?_;refine U.alloc rfl ck c9 λb7 I a w U=>?_;refine tc λI a w U=>?_;refine U.o (.cl (N9 (eb s m.slot).ar m.ar mc.ar jM.1)) λU=>?_;refine tb λI a w U=>?_;refine U.o (.cl (N9 (eb s m.slot).waits m.waits mc.waits jM.2.1)) λU=>?_;refine m4 λI a w U=>?_;refine St.lo (σ:=Nat) (14::(run 10 65 [])) ⟨λk=>[(65,AV.int k)],λk=>[Own.box b4 95 [AV.val (.int .i64 0),AV.val (.bool false),AV.rows 2 [],AV.rows 7 [],AV.rows 7 [],AV.rows 3 [],AV.rows 3 []],Own.row vS 97 2 (s.aN.map cI.cells),Own.box b7 95 [AV.int s.site,AV.bool s.up,AV.val vS,bV (eb s m.slot).ar,bV (eb s m.slot).waits,bf ((m.aE.take k).foldl ek (eb s m.slot).aE),bf s.bn]],λk=>k<=m.aE.length⟩ (λk=>m.aE.length-k) 0 U ?aH ?bx;case aH=>exact Nat.zero_le _
 rintro k I a w al U;have hk:k<=m.aE.length:=al;dsimp only at U;refine ao λI a w U=>?_;refine cz (λah=>?_) λah=>?_
 .refine aF λI a w U=>?_;refine U.alloc rfl cx ez λra I a w U=>?_;refine ao λI a w U=>?_;obtain⟨I,U⟩:=U.fb 3 14;refine bc λI a w U=>?_;refine U.o (cq (F7 ((m.aE.take k).foldl ek (eb s m.slot).aE) (ab m.aE k) (by have:=LH (eb s m.slot).aE m.aE k;omega)) (ai .r (ai (.t rfl) aB))) λU=>?_;refine aV λI a w U=>?_;have U:=U.drop 3;rw[<-L3 ah] at U;exact U.ag (k+1) (ah)
 refine zt ?_;refine iU λI a w U=>?_;obtain⟨bS,cS,rfl⟩:=U.gv 1 rfl gG;refine dp λI a w U=>?_;refine U.o (.bd mr (.k (.k aT.nil))) λU=>?_;refine U.o (fj fq dR .tt .tt (λ_=>by simp only[List.length_map];omega)) λU=>?_;refine U.jf 1 dR .tt .tt rfl (by exact dL om) rfl rfl λa w U=>?_;refine zt ?_;rw[e9] at U;rotate_left
 .rfl
 obtain⟨I,U⟩:=U.fu 1 2 2;rw[show m.aE.take k=m.aE from List.take_of_length_le om] at U;refine Aa λI a w U=>?_;refine U.q .F (.cl (ui (qV s m))) λU=>?_;refine aq λI a w U=>?_;refine U.cd (λaj=>?_) λaj=>?_
 .rw[NR] at aj;replace aj:=nt aj;refine aM λI a w U=>?_;refine U.ret rfl (.cons (.sx 0) (.cons (.nil (sz:=15) rfl) aX.nil)) ?_;exact(by rw[F9 hf om aj];rfl)
 rw[NR] at aj;replace aj:=nf aj;refine bw λI a w U=>?_;refine U.o (cq (wA (qV s m) (iL.1 (by simp only[Bool.and_eq_true] at aj;exact aj.2)).ok (gZ (iL.1 (by simp only[Bool.and_eq_true] at aj;exact aj.2)).aE)) (ai (.t rfl) aB)) λU=>?_;refine aM λI a w U=>?_;refine U.ret rfl (.cons (.sx 0) (.cons .x aX.nil)) ?_;exact(by rw[On hf om aj];rfl)
def nE (q:Call) (k:Nat):List aw:=((q.keys.take k).filter λk=>decide (cE q k<0)).map tW
def Zv (q:Call) (n:Value) (x:Answer) (t:Int) (hg:∀y∈q.az,dH y=true) (hx:dH x=true) (hl:q.az.length<=1048575) (jX:q.keys.length<=1048576) (hn:q.aL.length<=1048576):
 fQ prog 328 [q.wu n,x.av,AV.int t] [Own.row n 125 3 (q.aL.map an.cells)] [] (nC q x t).av:=by
 refine bJ.intro 62 func328 rfl ntmps328 rfl aP (λW I a U=>?_);refine sr<|U.box rfl .tt λb3 I a w U=>U.o .bp λU=>U.alloc rfl ei jj λb6 I a w U=>?_;refine zt ?_;refine U.l0 λjU I a w U=>?_;refine aM λI a w U=>?_;refine St.lo (σ:=Nat×Bool×List Answer×Value) (run 3 7 (run 32 11 [])) ⟨λ⟨k,done,out,v⟩=>[(9,AV.int k),(8,AV.bool done),(7,AV.val v)],λ⟨k,done,out,v⟩=>[Own.row n 125 3 (q.aL.map an.cells),Own.box b3 45 [AV.int q.aA,AV.int q.num,AV.int q.kind,gJ q.keys,AV.int q.val,bf q.ctx,AV.int q.bq,AV.int q.end_,AV.bool q.over,AV.int q.ax.time,AV.int q.ax.site,nL q.az,AV.val n],Own.box b6 45 [AV.val (.int .i64 0),AV.val (.int .i64 0),AV.val (.int .i64 0),AV.rows 1 [],AV.val (.int .i64 0),AV.rows 3 [],AV.val (.int .i64 0),AV.val (.int .i64 0),AV.val (.bool false),AV.val (.int .i64 0),AV.val (.int .i64 0),AV.rows 9 [],AV.rows 3 []],Own.row v 56 9 (out.map Answer.cells)],λ⟨k,done,out,v⟩=>lg q.az x k done out⟩ (λ⟨k,done,out,v⟩=>q.az.length-k) (0,false,[],.slice (some ⟨jU,0,none⟩) 0 0) U ?aH ?bx;case aH=>exact lg.zero q.az x
 rintro⟨k,done,out,v⟩ I a w al U;have hp:lg q.az x k done out:=al;have hk:=hp.hk;have iO:=hp.len;have mZ:done.toNat<=1:=by cases done<;>simp
 dsimp only at U;refine cn λI a w U=>?_;refine cz (λae=>?_) λae=>?_
 .refine ao λI a w U=>?_;refine cz (λah=>?_) λah=>?_
  .refine aF λI a w U=>?_;refine U.o (.li [x.cells] rJ (.u .nil)) λU=>?_;refine U.ap 3 λv34 a w U=>?_;rw[bN] at U;refine j3 λI a w U=>?_;refine U.o (.li [(ab q.az k).cells] rJ (.u .nil)) λU=>?_;refine U.ap 3 λmN a w U=>?_;rw[bN] at U;refine aV λI a w U=>?_;exact U.ag (k+1,true,(out++[x])++[ab q.az k],mN) (by obtain⟨h1,h2⟩:=ah;subst h1;exact hp.before ae h2)
  refine dp λI a w U=>?_;refine U.o (.li [(ab q.az k).cells] rJ (.u .nil)) λU=>?_;refine U.ap 3 λmN a w U=>?_;rw[bN] at U;refine aV λI a w U=>?_;exact U.ag (k+1,done,out++[ab q.az k],mN) (hp.step ae (by rcases ah with h|h;exact .inl h;exact .inr om))
 refine wp_exit<|cm<|cm<|dS<|ba ?_;refine St.cut (σ:=Value) (7::(run 6 43 [])) ⟨λv=>[(7,AV.val v)],λv=>[Own.row n 125 3 (q.aL.map an.cells),Own.box b3 45 [AV.int q.aA,AV.int q.num,AV.int q.kind,gJ q.keys,AV.int q.val,bf q.ctx,AV.int q.bq,AV.int q.end_,AV.bool q.over,AV.int q.ax.time,AV.int q.ax.site,nL q.az,AV.val n],Own.box b6 45 [AV.val (.int .i64 0),AV.val (.int .i64 0),AV.val (.int .i64 0),AV.rows 1 [],AV.val (.int .i64 0),AV.rows 3 [],AV.val (.int .i64 0),AV.val (.int .i64 0),AV.val (.bool false),AV.val (.int .i64 0),AV.val (.int .i64 0),AV.rows 9 [],AV.rows 3 []],Own.row v 56 9 ((df q.az x).map Answer.cells)],λv=>True⟩ U ?Gv ?Zw;case Gv=>
  refine aq λI a w U=>?_;refine cz (λaj=>?_) λaj=>?_
  .refine aF λI a w U=>?_;refine U.o (.li [x.cells] rJ (.u .nil)) λU=>?_;refine U.ap 3 λGw a w U=>?_;rw[bN] at U;refine ao λI a w U=>?_;first|rw[show out++[x]=df q.az x from by subst aj;exact hp.nX om] at U|rw[show out=df q.az x from by subst aj;exact hp.nW om] at U
   exact U.me Gw eZ
  refine zt ?_;first|rw[show out++[x]=df q.az x from by subst aj;exact hp.nX om] at U|rw[show out=df q.az x from by subst aj;exact hp.nW om] at U
  exact U.me v eZ
 rintro v I a w al U;refine wp_seq ?_;obtain⟨I,U⟩:=U.fr 3 7;refine aF λI a w U=>?_;try have ajc:=U.dK 3 rfl
 refine m3 λI a w U=>?_;refine cz (λaG=>?_) λaG=>?_
 .refine wp_seq ?_;obtain⟨I,U⟩:=U.fu 0 12 1;refine aq λI a w U=>?_;refine U.bD () [] rfl (.cons (.sx 2) .nil) trivial rfl ?_;exact(by unfold nC;dsimp only;rw[if_pos (by simpa using aG)];rfl)
 refine aF λI a w U=>?_;refine U.dX [0] (XB {q with az:=df q.az x} n t (λy hy=>(tv.1 hy).elim (λe=>e▸hx) (hg y)) (by show(df q.az x).length<=_;rw[tw];omega) hn) (ai .tt (ai .tt aB)) rfl aO rfl λI a w U=>?_;refine ao λI a w U=>?_;refine U.bD () [] rfl (.cons (.sx 2) .nil) trivial rfl ?_;exact(by unfold nC;dsimp only;rw[if_neg (by simpa using aG)];rfl)
def Zx (q:Call) (m:aw) (t:Int) (h:dQ q t) (ht:t<=1000000):
 Fn prog 307 [q.av,m.av,AV.int t] ((dJ q m t).av):=by
 refine Fn.go 135 func307 ntmps307 (λW I a U=>?_);have al:=pG.2 h;have lX:=h.lens;have hb:=h.bq;have uq:=h.yA om;have aR:=r6.1 h.aA;refine aF λI a w U=>?_;refine U.alloc rfl ei jj λb6 I a w U=>?_;refine aF λI a w U=>?_;refine U.o (cq (B0 q t om om) (ai (.t rfl) (ai (.t rfl) aB))) λU=>?_;refine ao λI a w U=>?_;refine U.cd (λae=>?_) λae=>?_
 .exfalso;rw[al] at ae;cases ae;skip
 refine bw λI a w U=>?_;refine U.bz [] (Vg q h.small) (ai .tt aB) rfl aO rfl λu I a w BV U=>?_;refine U.alloc rfl ei jj λb7 I a w U=>?_;refine aF λI a w U=>?_;refine U.o (.c1 (E6 ..)) λU=>?_;refine Kl λI a w U=>?_;refine U.q .F (.cl (M7 ..)) λU=>?_;refine D2 λI a w U=>?_;refine U.cd (λah=>?_) λah=>?_
 .rw[MJ q m t uq.1] at ah;replace ah:=nt ah;refine wp_seq ?_;obtain⟨I,U⟩:=U.fu 1 11 3;obtain⟨I,U⟩:=U.fu 2 12 3;refine aq λI a w U=>?_;refine U.ret rfl (.cons (.sx 0) aX.nil) ?_;exact(by unfold dJ;rw[ah];rfl)
 rw[MJ q m t uq.1] at ah;replace ah:=nf ah;have yO:=ah;simp only[Bool.and_eq_true,decide_eq_true_eq] at yO;obtain⟨⟨⟨⟨⟨hm,_⟩,_⟩,iT⟩,hw⟩,Gx⟩:=yO;have B3:=fV (mD hm).1;refine aM λI a w U=>?_;refine cz (λaj=>?_) λaj=>?_
 .refine dp λI a w U=>?_;refine U.q .T (.cl (th ..)) λU=>?_;refine ao λI a w U=>?_;refine U.cd (λaG=>?_) λaG=>?_
  .refine bc λI a w U=>?_;refine U.mX 3 iH .tt .tt rfl rfl rfl λa w U=>?_;refine aM λI a w U=>?_;obtain⟨I,U⟩:=U.fu 1 11 3;obtain⟨I,U⟩:=U.fu 2 12 3;refine aq λI a w U=>?_;refine U.ret rfl (.cons (.sx 0) aX.nil) ?_;exact(by unfold dJ;rw[ah,if_pos rfl,if_pos aj,if_pos (by simpa using aG)];rfl)
  refine wp_skip<|ba<|wp_seq ?_;obtain⟨I,U⟩:=U.fu 1 11 3;obtain⟨I,U⟩:=U.fu 2 12 3;refine aq λI a w U=>?_;refine U.ret rfl (.cons (.sx 0) aX.nil) ?_;exact(by unfold dJ;rw[ah,if_pos rfl,if_pos aj,if_neg (by simpa using aG)];rfl)
 refine bj λI a w U=>?_;refine U.o (.bd m5 (.k (.k aT.nil))) λU=>?_;refine U.alloc rfl eI m5 λb8 I a w U=>?_;refine ao λI a w U=>?_;refine U.dk ?_;refine qz ?_;refine .q .F2 (dE (i:=0) dA bL .ag .c (λhg=>by simp at hg;omega)) ?_;refine mn ?_;refine .nil ?_;intro I a w U;refine ba ?_;refine U.cd (λaK=>?_) λaK=>?_
 .rw[A5] at aK;replace aK:=nt aK;rw[decide_eq_false_iff_not] at aK;refine wp_seq ?_;obtain⟨I,U⟩:=U.fu 1 11 3;obtain⟨I,U⟩:=U.fu 2 12 3;refine aq λI a w U=>?_;refine U.ret rfl (.cons (.sx 0) aX.nil) ?_;exact(by unfold dJ jz;rw[ah,if_pos rfl,if_neg aj,if_neg aK];rfl)
 rw[A5] at aK;replace aK:=nf aK;rw[decide_eq_true_eq] at aK;have sC:=E1 (q:=q) hm aK.2;refine wp_skip<|ba ?_;refine St.cut (σ:=Unit) (run 8 104 []) ⟨λ_=>[],λ_=>[Own.box b6 45 [AV.val (.int .i64 0),AV.val (.int .i64 0),AV.val (.int .i64 0),AV.rows 1 [],AV.val (.int .i64 0),AV.rows 3 [],AV.val (.int .i64 0),AV.val (.int .i64 0),AV.val (.bool false),AV.val (.int .i64 0),AV.val (.int .i64 0),AV.rows 9 [],AV.rows 3 []],Own.row u.1 56 9 (q.az.map Answer.cells),Own.row u.2 125 3 (q.aL.map an.cells),Own.box b7 45 [AV.int q.aA,AV.int q.num,AV.int q.kind,gJ q.keys,AV.int q.val,bf q.ctx,AV.int q.bq,AV.int q.end_,AV.bool q.over,AV.int q.ax.time,AV.int q.ax.site,AV.val u.1,AV.val u.2],Own.box b8 56 (dB m).cells],λ_=>True⟩ U ?Zy ?ajd;case Zy=>
  refine aq λI a w U=>?_;refine U.cd (λbh=>?_) λbh=>?_
  .have hv1:=(aK.2 bh).1;refine aF λI a w U=>?_;refine U.o (dE (i:=0) dA bL .tt .c (λ_=>by omega)) λU=>?_;refine U.o .la λU=>?_;refine U.o (cq (j4 (ab m.ar 0) (by have:=dY (jL (gP (mD hm).1 _ (bB (l:=m.ar) (k:=0) om))).2.2;omega)) (ai (.t rfl) aB)) λU=>?_;refine U.o .fv λU=>U.mX 4 bL .tt .tt rfl rfl rfl λa w U=>?_;refine zt ?_;have U:=U.pass (H':=[Own.box b6 45 [AV.val (.int .i64 0),AV.val (.int .i64 0),AV.val (.int .i64 0),AV.rows 1 [],AV.val (.int .i64 0),AV.rows 3 [],AV.val (.int .i64 0),AV.val (.int .i64 0),AV.val (.bool false),AV.val (.int .i64 0),AV.val (.int .i64 0),AV.rows 9 [],AV.rows 3 []],Own.row u.1 56 9 (q.az.map Answer.cells),Own.row u.2 125 3 (q.aL.map an.cells),Own.box b7 45 [AV.int q.aA,AV.int q.num,AV.int q.kind,gJ q.keys,AV.int q.val,bf q.ctx,AV.int q.bq,AV.int q.end_,AV.bool q.over,AV.int q.ax.time,AV.int q.ax.site,AV.val u.1,AV.val u.2],Own.box b8 56 (dB m).cells]) (by unfold dB;rw[bh];rfl);exact U.me () eZ
  refine zt ?_;have U:=U.pass (H':=[Own.box b6 45 [AV.val (.int .i64 0),AV.val (.int .i64 0),AV.val (.int .i64 0),AV.rows 1 [],AV.val (.int .i64 0),AV.rows 3 [],AV.val (.int .i64 0),AV.val (.int .i64 0),AV.val (.bool false),AV.val (.int .i64 0),AV.val (.int .i64 0),AV.rows 9 [],AV.rows 3 []],Own.row u.1 56 9 (q.az.map Answer.cells),Own.row u.2 125 3 (q.aL.map an.cells),Own.box b7 45 [AV.int q.aA,AV.int q.num,AV.int q.kind,gJ q.keys,AV.int q.val,bf q.ctx,AV.int q.bq,AV.int q.end_,AV.bool q.over,AV.int q.ax.time,AV.int q.ax.site,AV.val u.1,AV.val u.2],Own.box b8 56 (dB m).cells]) (by unfold dB;rw[bh];rfl);exact U.me () eZ
 rintro _ I a w al U;refine bc λI a w U=>?_;refine U.o (.c2 (Bq q m.key)) λU=>?_;refine ao λI a w U=>?_;refine cz (λaZ=>?_) λaZ=>?_
 .refine aF λI a w U=>?_;refine U.o (.bd gx aT.nil) λU=>?_;refine U.o (lF [_,_] [_,_] mu rfl rfl .tt .tt) λU=>?_;refine zt ?_;refine U.cd (λbT=>?_) λbT=>?_
  .rw[A2] at bT;refine wp_seq ?_;obtain⟨I,U⟩:=U.fu 1 11 3;refine bc λI a w U=>?_;refine U.dX [2] (Zv q u.2 (dB m) t h.cH sC om om om) (ai .tt (ai .tt (ai .tt aB))) rfl aO rfl λI a w U=>?_;refine U.o (.c1 (AR _ (dQ.nC h hw Gx aj sC iT aZ).small)) λU=>?_;refine ao λI a w U=>?_;refine U.ret rfl (.cons (.sx 0) aX.nil) ?_;exact(by unfold dJ jz;rw[ah,if_pos rfl,if_neg aj,if_pos aK,if_pos aZ,if_pos bT];rfl)
  rw[A2] at bT;refine wp_skip<|ba<|wp_seq ?_;obtain⟨I,U⟩:=U.fu 1 11 3;obtain⟨I,U⟩:=U.fu 2 12 3;refine aq λI a w U=>?_;refine U.ret rfl (.cons (.sx 0) aX.nil) ?_;exact(by unfold dJ jz;rw[ah,if_pos rfl,if_neg aj,if_pos aK,if_pos aZ,if_neg (by rw[bT];simp)];rfl)
 refine aq λI a w U=>?_;refine U.cd (λcO=>?_) λcO=>?_
 .refine wp_seq ?_;obtain⟨I,U⟩:=U.fu 2 12 3;refine bc λI a w U=>?_;refine U.dX [1] (XC q u.1 (dB m) t t h (sh sC cO).2) (ai .tt (ai .tt (ai .tt aB))) rfl aO rfl λI a w U=>?_;refine U.o (.c1 (AR _ (dQ.np h hw Gx aj sC cO).small)) λU=>?_;refine ao λI a w U=>?_;refine U.ret rfl (.cons (.sx 0) aX.nil) ?_;exact(by unfold dJ jz;rw[ah,if_pos rfl,if_neg aj,if_pos aK,if_neg (Int.not_lt.2 aZ),if_pos cO];rfl)
 refine wp_skip<|ba<|wp_seq ?_;obtain⟨I,U⟩:=U.fu 1 11 3;obtain⟨I,U⟩:=U.fu 2 12 3;refine aq λI a w U=>?_;refine U.ret rfl (.cons (.sx 0) aX.nil) ?_;exact(by unfold dJ jz;rw[ah,if_pos rfl,if_neg aj,if_pos aK,if_neg (Int.not_lt.2 aZ),if_neg (by rw[cO];simp)];rfl)
def Zz {q:Call} {k:Nat} (h:∀a∈q.az,dH a=true) (hk:q.az.length<=k):oB q k=ka q:=by
 have hS:∀key,qN (cv (eL q) key):=λkey=>rb (rf (acc:=[]) rfl h).1 key;have key:∀l:List Answer,(∀a∈l,dH a=true)->(l.filter λa=>!dW (cv (eL q) a.key)&&my a (cv (eL q) a.key)).map (λa=>(⟨a.key,cv (eL q) a.key⟩:an))=(l.map (mJ (eL q))).flatten:=by
  intro l;induction l with
  |nil=>intro _;rfl
  |cons a r ih=>
   intro hl
   have ih:=ih λx hx=>hl x (by simp[hx])
   have ht:=XG (hl a bt) (hS a.key)
   rw[List.map_cons,List.flatten_cons,<-ih]
   unfold mJ
   by_cases hp:c8 a.bF.ax (cv (eL q) a.key)=true
   .rw[List.filter_cons_of_pos (by rw[ht];exact hp),if_pos hp];rfl
   rw[List.filter_cons_of_neg (by rw[ht];exact hp),if_neg hp];rfl
 unfold oB ka;rw[List.take_of_length_le hk];exact key _ h
def OP {q:Call} {m:aw} {t t0:Int} (h:dQ q t0) (hm:dH (dB m)=true) (hv:m.kind=4/\(m.yes=true->m.ar.length=1/\(ab m.ar 0).key=m.key)) (hb:(decide (0<=cE q m.key)&&m.yes&&decide (0<=gh q.aL (dB m).bF.bG))=true):
 jz q m t=if(q.aL.filter λd=>!decide (d.key=m.key))=[] then{q with az:=q.az.set (cE q m.key).toNat (dB m),aL:=q.aL.filter (λd=>!decide (d.key=m.key)),end_:=t} else{q with az:=q.az.set (cE q m.key).toNat (dB m),aL:=q.aL.filter λd=>!decide (d.key=m.key)}:=by
 simp only[Bool.and_eq_true,decide_eq_true_eq] at hb;obtain⟨⟨h1,h2⟩,h3⟩:=hb;have rA:=vH.1 h3;have hk:(dB m).bF.key=(dB m).key:=(sh hm h2).2;rw[show(λd:an=>!decide (d.key=m.key))=λd=>!decide (d.key=(dB m).key) from rfl,Xb h rA hk];unfold jz;rw[if_pos hv,if_neg om,if_pos h2];unfold np;rw[if_pos rA];rfl
def ZA {s:Server} {d:an} (h:fD s.aE=true):s.aE.filter (λx=>!decide (x=d))=if 0<=gh s.aE d then s.aE.take (gh s.aE d).toNat++s.aE.drop ((gh s.aE d).toNat+1) else s.aE:=by
 split
 .rename_i hi;refine Xf ((vF.1 h).2.2.imp λ{a b} hl e=>?_) (Nb hi) (of_decide_eq_true (A3 (p:=λe=>decide (e=d)) hi).2.1);subst e;rw[AD] at hl;cases hl
 rename_i hi;exact List.filter_eq_self.2 λx hx=>by simpa using MA om x hx
def ZE (q:Call):
 Fn prog 226 [q.av] (AV.bool (ie q)):=by
 refine Fn.go 40 func226 ntmps226 (λW I a U=>?_);have lens:q.keys.length<=9223372036854775807/\q.az.length<=9223372036854775807/\q.aL.length<=9223372036854775807:=⟨U.ln 0 3,U.ln 0 11,U.ln 0 12⟩;refine ib λI a w U=>?_;refine St.lo (σ:=Nat) (run 2 2 (5::(run 11 9 []))) ⟨λk=>[(9,AV.int k),(3,AV.int (rW q.keys k))],λk=>[],λk=>k<=q.keys.length/\∀i,i<k->et cY mw q.keys i=true⟩ (λk=>q.keys.length-k) 0 U ?aH ?bx;case aH=>exact⟨Nat.zero_le _,λi hi=>by omega⟩
 rintro k I a w al U;obtain⟨hk,aU⟩:=al;refine ao λI a w U=>?_;refine cz (λae=>?_) λae=>?_
 .refine bK λI a w U=>?_;refine U.o (jW .tt .c (λ_=>by have:=Of aU;omega)) λU=>?_;refine U.o (.cl (ij ..)) λU=>?_;refine ao λI a w U=>?_;refine U.cd (λah=>?_) λah=>?_
  .rw[Og aU] at ah;replace ah:=nt ah;refine bk ?_;exact bI (by unfold ie jK;rw[eX (f:=et cY mw q.keys) ae ah];rfl)
  rw[Og aU] at ah;replace ah:=nf ah;refine aV λI a w U=>?_;refine U.again (k+1) ?ik ?il ef ?im (by repeat(first|exact Env.le_rfl|refine Env.iB rfl ?_));case ik=>omega
  case il=>exact⟨by omega,fO aU ah⟩
  case im=>exact(Env.dM rfl ef (Env.dM rfl (by exact congrArg AV.int (Vp _ _).symm) Env.le_nil))
 refine zt ?_;refine Kj λI a w U=>?_;refine U.q .T2 (.cl (ij ..)) λU=>?_;refine qx ?_;exact bI (by unfold ie jK;rw[eO aU om];rfl)
def ZF {l:List aD} {d:an} {v:aD} (h:ja l d=some v):0<=placeOf l d/\placeOf l d<l.length/\ab l (placeOf l d).toNat=v:=by
 unfold ja at h;split at h
 .rename_i hp;have:=(xN hp).1;exact⟨hp,by omega,Option.some.inj h⟩
 cases h
def OR (q:Call) (h:vL q):
 bJ prog 137 [q.av] [] (λ_:Value×Value=>True) (λu=>[Own.row u.1 56 9 (q.az.map Answer.cells),Own.row u.2 125 3 (q.aL.map an.cells)]) (λu=>q.vM u.1 u.2):=by
 refine bJ.intro 40 func137 rfl ntmps137 rfl aP (λW I a U=>?_);obtain⟨h1,h2,h4,h5,h3⟩:=h;have U:=U.fC (sz:=9) 56;refine sr<|U.box rfl .tt λb1 I a w U=>U.alloc rfl ei jj λb2 I a w U=>?_;refine zt ?_;refine U.da 10 ?_;simp only[TD];refine cg ?_;refine .o (xr cG cB rfl TJ .r (λ_=>by simp;omega)) ?_;refine cg ?_;refine .o (.cl (qQ q.ctx h2)) ?_;refine cg ?_;refine fk.km (Be q.aL h3) (ai .r aB) ?_;refine aW ?_;refine .nil ?_;intro I a w U;obtain⟨j7,U⟩:=U.z5 (d:=14);refine bj λI a w U=>?_;try have LJ:=U.dK 3 rfl
 refine iU λI a w U=>?_;refine St.lo (σ:=Nat×Value) (3::(5::(run 16 21 []))) ⟨λ⟨k,v⟩=>[(21,AV.int k),(3,AV.val v)],λ⟨k,v⟩=>[Own.row v 56 9 ((q.az.take k).map Answer.cells),Own.box b1 45 [AV.int q.aA,AV.int q.num,AV.int q.kind,gJ q.keys,AV.int q.val,bf q.ctx,AV.int q.bq,AV.int q.end_,AV.bool q.over,AV.int q.ax.time,AV.int q.ax.site,nL q.az,AV.val j7],Own.box b2 45 [AV.val (.int .i64 0),AV.val (.int .i64 0),AV.val (.int .i64 0),AV.rows 1 [],AV.val (.int .i64 0),AV.rows 3 [],AV.val (.int .i64 0),AV.val (.int .i64 0),AV.val (.bool false),AV.val (.int .i64 0),AV.val (.int .i64 0),AV.rows 9 [],AV.rows 3 []],Own.row j7 125 3 (q.aL.map an.cells)],λ⟨k,v⟩=>k<=q.az.length⟩ (λ⟨k,v⟩=>q.az.length-k) (0,.slice none 0 0) U ?aH ?bx;case aH=>exact Nat.zero_le _
 rintro⟨k,v⟩ I a w al U;have hk:k<=q.az.length:=al;dsimp only at U;refine ao λI a w U=>?_;refine cz (λae=>?_) λae=>?_
 .refine aF λI a w U=>?_;refine U.alloc rfl eI m5 λb5 I a w U=>?_;refine ao λI a w U=>?_;obtain⟨I,U⟩:=U.fb 4 5;refine U.dt 10 ?_;simp only[TD];refine jJ ?_;refine .o (.c1 (tK _ (h5 _ (bB ae)))) ?_;refine .o (.bd m5 (.k (.k (.t aT.nil)))) ?_;refine .o (.li [(ab q.az k).cells] rJ (.u .nil)) ?_;refine .nil ?_;intro I a w U;refine U.ap 0 λZG a w U=>?_;rw[bN,<-dO ae] at U;refine aM λI a w U=>?_;have U:=U.drop 4;exact U.ag (k+1,ZG) (ae)
 refine wp_exit<|cm<|cm<|dS<|ba<|wp_seq ?_;rw[List.take_of_length_le om] at U;refine aF λI a w U=>?_;try have ajh:=U.dK 0 rfl
 refine aM λI a w U=>?_;exact U.bD (v,j7) [0,3] rfl (.cons (.s 2 ei rfl rfl (by first|rfl|assumption)) .nil) trivial rfl rfl
def OS (q:Call) (h:vL q):Fn prog 137 [q.av] q.av:=(OR q h).frozen λr c I a w _ U=>by
 obtain⟨I,U⟩:=U.fa 0 0 11;obtain⟨I,U⟩:=U.fa 1 0 12;exact⟨_,_,_,U⟩
def ZH (s:Server) (m:aw) (hg:bA s) (hm:bQ m=true) (ho:(aQ m.aY 10 11&&decide (1<=m.call)&&fw s m.key)=true):
 Fn prog 342 [s.av,m.av] (AV.c6 [(gX s m).1.av,cU (gX s m).2]):=by
 refine Fn.go 150 func342 ntmps342 (λW I a U=>?_);have U:=U.fC (sz:=2) 42;have al:=iL.2 hg;have cK:=hg.ok;have gF:=hg.small;have jM:=mD hm;have pJ:=dY jM.2.2.2;have lens:m.aS.length<=9223372036854775807/\m.ar.length<=9223372036854775807/\m.waits.length<=9223372036854775807/\m.aE.length<=9223372036854775807:=⟨U.ln 1 9,U.ln 1 12,U.ln 1 13,U.ln 1 14⟩;have ZI:=se hm;have aji:=gF.2.1.1;have iO:=gZ hg.aE;refine aF λI a w U=>?_;refine U.alloc rfl ck c9 λb4 I a w U=>?_;refine tb λI a w U=>?_;refine U.o (.bd dr (.k (.k (.k aT.nil)))) λU=>?_;refine U.alloc rfl cV dr λb7 I a w U=>?_;refine cn λI a w U=>?_;refine St.lo (σ:=Nat) (5::(9::(run 37 31 []))) ⟨λk=>[(31,AV.int k)],λk=>[Own.row (.slice none 0 0) 42 2 (([]).map cA.cells),Own.box b4 95 [AV.val (.int .i64 0),AV.val (.bool false),AV.rows 2 [],AV.rows 7 [],AV.rows 7 [],AV.rows 3 [],AV.rows 3 []],Own.box b7 108 [AV.int 2,AV.int 0,AV.int 0,AV.int m.call,AV.int m.key,AV.int 0,AV.int 0,AV.int 0,AV.bool false,bf [],AV.int 0,AV.int 0,bV [],bV [],bf []]],λk=>k<=s.ar.length/\∀i,i<k->oc s m.key (m.aY-10) m.call (ab s.ar i)=false⟩ (λk=>s.ar.length-k) 0 U ?aH ?bx;case aH=>exact⟨Nat.zero_le _,λi hi=>by omega⟩
 rintro k I a w al U;obtain⟨hk,aU⟩:=al;refine ao λI a w U=>?_;refine cz (λae=>?_) λae=>?_
 .refine aF λI a w U=>?_;refine U.alloc rfl bL dy λb9 I a w U=>?_;refine ao λI a w U=>?_;obtain⟨I,U⟩:=U.fb 3 9;refine Kl λI a w U=>?_;refine U.q .T (.cl (ER s (ab s.ar k))) λU=>?_;refine aq λI a w U=>?_;refine U.cd (λah=>?_) λah=>?_
  .rw[NG] at ah;refine bc λI a w U=>?_;refine U.mX 2 iH .tt .tt rfl rfl rfl λa w U=>?_;refine zt ?_;refine U.dt 5 ?_;simp only[TD];refine dq ?_;refine .o (.c3 (qT s m ⟨2,0,0,m.call,m.key,(ab s.ar k).ax,0,false,[],0,0,[],[],[]⟩ (tP ..)))<|.nil ?_;intro I a w U;refine aq λI a w U=>?_;refine U.ret rfl (.cons (.sx 1) (.cons .x aX.nil)) ?_;exact(by rw[Ls ho (by rw[MO ae aU ah];rfl),MO ae aU ah];rfl)
  rw[NG] at ah;refine aq λI a w U=>?_;have U:=U.drop 3;exact U.ag (k+1) (⟨by omega,λi h1=>by rcases Nat.lt_succ_iff_lt_or_eq.1 h1 with h|h;exact aU i h;rw[h];exact ah⟩)
 refine zt ?_;refine cn λI a w U=>?_;refine St.lo (σ:=Nat×Value) (10::(12::(run 10 71 []))) ⟨λ⟨k,v⟩=>[(71,AV.int k),(10,AV.val v)],λ⟨k,v⟩=>[Own.row v 42 2 (((m.aS.take k).map an.ax).map cA.cells),Own.box b4 95 [AV.val (.int .i64 0),AV.val (.bool false),AV.rows 2 [],AV.rows 7 [],AV.rows 7 [],AV.rows 3 [],AV.rows 3 []],Own.box b7 108 [AV.int 2,AV.int 0,AV.int 0,AV.int m.call,AV.int m.key,AV.int 0,AV.int 0,AV.int 0,AV.bool false,bf [],AV.int 0,AV.int 0,bV [],bV [],bf []]],λ⟨k,v⟩=>k<=m.aS.length⟩ (λ⟨k,v⟩=>m.aS.length-k) (0,.slice none 0 0) U ?dC ?iJ;case dC=>exact Nat.zero_le _
 rintro⟨k,v⟩ I a w al U;have hk:k<=m.aS.length:=al;dsimp only at U;refine ao λI a w U=>?_;refine cz (λaj=>?_) λaj=>?_
 .refine aF λI a w U=>?_;refine U.alloc rfl cx ez λwj I a w U=>?_;refine ao λI a w U=>?_;obtain⟨I,U⟩:=U.fb 3 12;refine bc λI a w U=>?_;refine U.o (.li [(ab m.aS k).ax.cells] Ah (.u .nil)) λU=>?_;refine U.ap 0 λZJ a w U=>?_;refine aM λI a w U=>?_;have U:=U.drop 3;rw[bN,show(m.aS.take k).map an.ax++[(ab m.aS k).ax]=(m.aS.take (k+1)).map an.ax from by rw[dO aj,List.map_append];rfl] at U;exact U.ag (k+1,ZJ) (aj)
 refine wp_exit<|cm<|cm<|dS<|ba ?_;refine St.cut (σ:=Value) (10::(run 2 13 (run 14 81 []))) ⟨λv=>[(10,AV.val v)],λv=>[Own.row v 42 2 ((jl s m).map cA.cells),Own.box b4 95 [AV.val (.int .i64 0),AV.val (.bool false),AV.rows 2 [],AV.rows 7 [],AV.rows 7 [],AV.rows 3 [],AV.rows 3 []],Own.box b7 108 [AV.int 2,AV.int 0,AV.int 0,AV.int m.call,AV.int m.key,AV.int 0,AV.int 0,AV.int 0,AV.bool false,bf [],AV.int 0,AV.int 0,bV [],bV [],bf []],Own.gone],λv=>True⟩ U ?ZK ?ajj;case ZK=>
  refine bj λI a w U=>?_;refine U.o (.cl (Oc s.ar m.key gF.2.1.2)) λU=>?_;refine bc λI a w U=>?_;refine U.alloc rfl bL dy λBR I a w U=>?_;refine U.sb 3 λU=>?_;obtain⟨I,U⟩:=U.fb 3 13;refine aq λI a w U=>?_;refine U.cd (λaG=>?_) λaG=>?_
  .refine bc λI a w U=>?_;refine U.o (.li [((gf s.ar m.key).getD default).ax.cells] Ah (.u .nil)) λU=>?_;refine U.ap 0 λZL a w U=>?_;refine ao λI a w U=>?_;first|rw[bN,show m.aS.take k=m.aS from List.take_of_length_le om,Bu aG] at U|rw[show m.aS.take k=m.aS from List.take_of_length_le om,Bk aG] at U
   exact U.me ZL eZ
  refine zt ?_;first|rw[bN,show m.aS.take k=m.aS from List.take_of_length_le om,Bu aG] at U|rw[show m.aS.take k=m.aS from List.take_of_length_le om,Bk aG] at U
  exact U.me v eZ
 rintro v I a w al U;refine bc λI a w U=>?_;obtain⟨I,U⟩:=U.fr 0 98;refine U.o (.cl (X4 s.site (jl s m) hg.site (EL hg hm))) λU=>?_;refine bc λI a w U=>?_;refine U.alloc rfl iH gx λFv I a w U=>?_;refine U.sb 4 λU=>?_;obtain⟨I,U⟩:=U.fb 4 15;refine z9 λI a w U=>?_;refine U.o (.bd dy (.k (.t (.k (.k (.k (.k aT.nil))))))) λU=>?_;refine U.alloc rfl bL dy λZC I a w U=>?_;refine ao λI a w U=>?_;obtain⟨I,U⟩:=U.fb 5 17;refine m3 λI a w U=>?_;refine U.cd (λaK=>?_) λaK=>?_
 .rw[LM iO] at aK;replace aK:=nt aK;refine aM λI a w U=>?_;refine U.ret rfl (.cons (.sx 1) (.cons (.nil (sz:=15) rfl) aX.nil)) ?_;exact(by rw[Fy ho (Fp om aU) (by rw[Bool.and_right_comm,aK];rfl)];rfl)
 rw[LM iO] at aK;replace aK:=nf aK;refine bc λI a w U=>?_;refine U.o (.cl (N7 s.ar (gm s m) cK.ar)) λU=>?_;refine ib λI a w U=>?_;refine U.cd (λbh=>?_) λbh=>?_
 .replace bh:=nt bh;refine aM λI a w U=>?_;refine U.ret rfl (.cons (.sx 1) (.cons (.nil (sz:=15) rfl) aX.nil)) ?_;exact(by rw[Fy ho (Fp om aU) (by rw[bh];simp)];rfl)
 replace bh:=nf bh;have m0:=Xe aK bh;rw[if_pos bh] at U;refine bw λI a w U=>?_;refine U.o (.c1 (qR s gF)) λU=>U.alloc rfl ck c9 λb19 I a w U=>?_;refine bc λI a w U=>?_;refine U.s1 6 λU=>?_;refine zt ?_;refine U.dt 6 ?_;simp only[TD];refine dw ?_;refine .o (.c1 (mF (gm s m))) ?_;refine .o (cq (F7 s.aE (gm s m).bG (by have:=gZ hg.aE;omega)) (ai .r (ai (.t rfl) aB))) ?_;refine aW ?_;refine .nil ?_;intro I a w U;refine U.s1 6 λU=>?_;refine aF λI a w U=>?_;refine U.mX 2 iH .tt .tt rfl rfl rfl λa w U=>?_;refine zt ?_;refine U.dt 6 ?_;simp only[TD];refine aW ?_;refine .o (cq (wA {s with ar:=ej s.ar (gm s m),aE:=ek s.aE (gm s m).bG} (Fx hg hm (by simp only[Bool.and_eq_true] at ho;exact ho.2) m0).ok (gZ (Fx hg hm (by simp only[Bool.and_eq_true] at ho;exact ho.2) m0).aE)) (ai (.t rfl) aB)) ?_;refine dw ?_;refine .o (.c3 (qT s m ⟨2,0,0,m.call,m.key,(gm s m).ax,0,false,[],0,0,[],[],[]⟩ (tP ..)))<|.nil ?_;intro I a w U;refine aq λI a w U=>?_;refine U.ret rfl (.cons (.sx 1) (.cons .x aX.nil)) ?_;exact(by rw[MF ho (Fp om aU) m0];rfl)
def ZM (l:List Call) (h:l.length<=1048576):
 gO prog 285 [fN l] 45 13 (l.map Call.cells):=by
 refine gO.intro 8 func285 rfl ntmps285 rfl aP (λW I a U=>?_);refine aF λI a w U=>?_;obtain⟨qa,ca,ZN,U⟩:=U.TW (t:=3) rfl;refine U.o (TV ju .tt .c) λU=>?_;refine zt ?_;refine U.cd (λae=>?_) λae=>?_
 .refine ao λI a w U=>?_;have U:=U.fC (sz:=13) 45;have ma:l=[]:=List.map_eq_nil_iff.1 (ZN (by simpa using ae));subst ma;exact U.nO (r:=2) 0 rfl rfl rfl rfl
 refine zt ?_;refine U.l0 λb5 I a w U=>?_;refine U.m λU=>?_;refine U.ap 0 λv7 a w U=>?_;refine ao λI a w U=>?_;exact U.nO (r:=2) 0 rfl rfl rfl rfl
def ZO (c0:Call) (aA:Int):
 Fn prog 286 [c0.av,AV.ptr [AV.int aA]] (AV.bool (rZ aA c0)):=by
 refine Fn.go 12 func286 ntmps286 (λW I a U=>?_);refine j3 λI a w U=>?_;refine U.q .T (.cl (Fl c0)) λU=>?_;refine dh ?_;exact bI (by unfold rZ g0;rw[Bool.and_assoc])
def Gy (l:List Call) (t:Int) (s r z:Value) (aA:Int):
 Fn prog 230 [AV.ptr [AV.int t,AV.val s,AV.val r,fN l,AV.val z],AV.int aA] (AV.int (cw l aA)):=by
 refine Fn.go 11 func230 ntmps230 (λW I a U=>?_);refine zt ?_;refine U.o (uQ .tt (by first|exact fi rfl|exact dD|exact fB|exact fE)) λU=>?_;refine bK λI a w U=>?_;refine U.o (mb (ai .tt aB)) λU=>?_;refine U.o (.cl (UZ l (rZ aA) _ (λq _=>Fn.val (ZO q aA)))) λU=>?_;refine bk ?_;rfl
def cr.small {w:aJ} (h:cr w):sj w:=by
 refine⟨⟨by have:=h.aC;omega,λs U=>?_⟩,⟨by have:=h.au;omega,λm hm=>tO (h.words m hm)⟩,⟨by have:=h.lens.1;omega,λq hq=>?_⟩,by have:=h.seen;omega,λl hl=>by have:=dY (h.od l hl);omega⟩
 .obtain⟨i,hi,rfl⟩:=iz U;exact((h.site i (by have:=h.aC;omega)).2).small
 obtain⟨i,hi,rfl⟩:=iz hq;exact(h.call hi).small
def OT:AV:=AV.some (λ_:Bool=>True) AV.bool
def B4:AV:=AV.some (λ_:List aD=>True) bV
def ur:AV:=AV.some (λ_:List an=>True) bf
end Go.Proofs.YtldbakcpcfdlaaaGreat
