/- Part 25: contracts of functions, plain facts. -/
import Derived.Test.YtldbakcpcfdlaaaGreatP21
import Derived.Test.YtldbakcpcfdlaaaGreatP22
set_option linter.all false
set_option maxRecDepth 100000
set_option maxHeartbeats 4000000
namespace Go.Proofs.YtldbakcpcfdlaaaGreat
open Go Go.RowKit Tryz
attribute [local irreducible] wpList Code.wp Ok
def vy (c:Call) (time:Int):fK c time=(pD c time&&wR c&&dh c.au.length (tG c)&&B5 c&&dh c.aO.length (td c)&&B6 c time):=by
 have e0:aS c.aB 0 1=fC c.aB:=rfl;cases dM:iz c
 .have h1:fK c time=false:=by simp[fK,lR,dM]
  have h2:pD c time=false:=by
   rw[<-MY] at dM;unfold pD;cases h3:aS c.kind 1 2
   .simp
   rw[h3,Bool.true_and] at dM;rw[dM];simp
  rw[h1,h2];simp
 have Dr:kf c.keys=true:=by unfold iz at dM;rw[Bool.and_eq_true] at dM;exact dM.1
 have eZ:=dM;rw[<-MY,Bool.and_eq_true] at eZ;have PH:c.kind=1\/c.kind=2:=by have:=eZ.1;simp[aS] at this;omega
 have e1:dh c.au.length (tG c)=m5 c:=yD rfl λi _=>Yg Dr i;rw[e1];cases hg:m5 c
 .simp[fK,lR,oN,hg]
 have hle:=HW Dr hg;cases dG:ck c.aO
 .simp[fK,lR,pD,dG]
 have e2:dh c.aO.length (td c)=dh c.aO.length (pz c):=yD rfl λi hi=>aba hg dG hi;rw[e2];unfold fK lR oN w7 nQ pD wR B5 B6;rw[e0,dM,eZ.1,eZ.2,hg,dG];generalize fC c.aB=b1;generalize aS c.num 1 99=b2;generalize ck c.ctx=b4;generalize aS c.bw 1 time=b5;generalize dh c.aO.length (pz c)=b6;generalize aS c.end_ (c.bw+1) time=b7;have e3:(decide (0<c.val)&&aS c.val 0 9999)=((c.val !=0)&&aS c.val 0 9999):=by
  rw[Bool.eq_iff_iff];simp[aS];omega
 have e4:oG c=decide (c.au.length=c.keys.length):=LV _ _;have e5:((c.aO.length:Int)==0)=decide (c.aO.length=0):=VY _;have e6:decide (0<(c.aO.length:Int))=!decide (c.aO.length=0):=LU _;have e7:decide ((c.au.length:Int)<c.keys.length)=!decide (c.au.length=c.keys.length):=U8 hle;have e8:decide ((c.keys.length:Int)<c.au.length)=false:=by simp;omega
 have e9:((c.au.length:Int)==c.keys.length)=decide (c.au.length=c.keys.length):=LV _ _;have e10:decide (0<(c.au.length:Int)+c.aO.length)=!(decide (c.au.length=0)&&decide (c.aO.length=0)):=Np _ _;rw[e4,e5,e6,e7,e8,e9,e10];have Ie:kr c.aw=(eH c.aw||dB c.aw):=rfl;rw[Ie];cases hv:aS c.val 0 9999
 .simp
 rw[hv,Bool.and_true,Bool.and_true] at e3;rw[e3];generalize decide (c.au.length=c.keys.length)=b9;generalize decide (c.au.length=0)=jD;generalize decide (c.aO.length=0)=oF;generalize (c.val !=0)=r9;generalize c.over=qW;by_cases hn:eH c.aw=true
 .have U:dB c.aw=false:=by
   cases U:dB c.aw
   .rfl
   have:=tk U;simp[eH] at hn;omega
  rw[hn,U];rcases PH with hh|hh<;>rw[hh]<;>by_cases he:c.end_=0<;>simp[he]<;>revert b1 b2 b4 b5 b6 b7 b9 jD oF r9 qW<;>decide
 simp only[Bool.not_eq_true] at hn;rw[hn];generalize dB c.aw=xc;rcases PH with hh|hh<;>rw[hh]<;>by_cases he:c.end_=0<;>simp[he]<;>revert b1 b2 b4 b5 b6 b7 b9 jD oF r9 xc qW<;>decide
def gQ (w0:aM) (e:Ev):aM×Bool:=
 let w:={w0 with time:=w0.time+1}
 if e.kind=1\/e.kind=2\/e.kind=3 then jo w e
 else if e.kind=4\/e.kind=5 then iY w e
 else if aS e.kind 6 9&&de e.at_ then fY w e
 else(w,false)
def kY (w:aM) (e:Ev):aM×Bool:=if w.time<99999/\(gQ w e).2=true then((gQ w e).1,true) else(w,false)
def fl (w:aM) (e:Ev):aM×Bool:=if fN w then kY w e else(te,false)
def jq (l:List Ev):aM:=if 2000<l.length then oi else l.foldl (λw e=>(fl w e).1) oi
def Du (q:Call) (time:Int) (ht:time<=4611686018427387904) (qY:q.au.length<=1048576):
 Fn prog 169 [q.av,AV.int time] (AV.bool (fK q time)):=by
 refine Fn.go 240 func169 ntmps169 (λW I a U=>?_);have lens:q.keys.length<=9223372036854775807/\q.au.length<=9223372036854775807/\q.aO.length<=9223372036854775807:=⟨U.ln 0 3,U.ln 0 11,U.ln 0 12⟩;refine aR λI a w U=>?_;refine U.o (.cl (iu ..)) λU=>?_;refine aR λI a w U=>?_;refine U.q .F (.cl (iu ..)) λU=>?_;refine bV λI a w U=>?_;refine U.q .F (.cl (iu ..)) λU=>?_;refine aR λI a w U=>?_;refine U.q .F (.cl (Yk ..)) λU=>?_;refine bV λI a w U=>?_;refine U.q .F (.cl (iu ..)) λU=>?_;refine bV λI a w U=>?_;refine U.q .F (.cl (qN ..)) λU=>?_;refine bV λI a w U=>?_;refine U.q .F (.cl (qN ..)) λU=>?_;refine df λI a w U=>?_;refine U.q .F (.cl (iu ..)) λU=>?_;refine ax λI a w U=>?_;refine U.cd (λab=>?_) λab=>?_
 .replace ab:pD q time=false:=by unfold pD;rw[ab];rfl
  refine aW ?_;exact bT (by rw[vy];rw[ab];rfl)
 replace ab:pD q time=true:=by unfold pD;rw[ab];rfl
 refine qg λI a w U=>?_;refine U.q .T (cr .ag .ag (λhg=>by have:=M5 ab;omega)) λU=>?_;refine Br λI a w U=>?_;refine U.q .F2 (.bd iI bf.nil) λU=>?_;refine U.q .F2 (A3 [_,_] [_,_] qh rfl rfl .ag .ag) λU=>?_;refine df λI a w U=>?_;refine U.q .F (.cl (LH ..)) λU=>?_;refine Bs λI a w U=>?_;refine U.cd (λah=>?_) λah=>?_
 .rw[B7] at ah;replace ah:wR q=false:=by unfold wR;rw[ah];rfl
  refine aW ?_;exact bT (by rw[vy];rw[ab,ah];rfl)
 rw[B7] at ah;replace ah:wR q=true:=by unfold wR;rw[ah];rfl
 refine al λI a w U=>?_;refine St.lo (σ:=Nat) (run 2 4 (run 46 98 [])) ⟨λk=>[(5,AV.int k)],λk=>[],λk=>k<=q.au.length/\∀i,i<k->(tG q) i=true⟩ (λk=>q.au.length-k) 0 U ?aD ?bh;case aD=>exact⟨Nat.zero_le _,λi hi=>by omega⟩
 rintro k I a w aj U;obtain⟨qD,aT⟩:=aj;refine bP λI a w U=>?_;refine cz (λai=>?_) λai=>?_
 .refine zt ?_;refine U.dk ?_;refine fQ ?_;refine .o (.c1 (Zb ..)) ?_;refine wh ?_;refine .q .F (.cl (Nt ..)) ?_;refine n5 ?_;refine gS ?_;refine .nil ?_;intro I a w U;refine ba ?_;refine U.cd (λaG=>?_) λaG=>?_
  .rw[PE] at aG;replace aG:=nt aG;refine aW ?_;exact bT (by rw[vy];rw[fI (f:=tG q) ai aG];simp)
  rw[PE] at aG;replace aG:=nf aG;refine aI λI a w U=>?_;exact U.ag (k+1) (⟨by omega,gf aT aG⟩)
 refine zt ?_;refine E7 λI a w U=>?_;refine U.cd (λaL=>?_) λaL=>?_
 .rw[LZ] at aL;replace aL:=nt aL;refine aW ?_;exact bT (by rw[vy];rw[aL];simp)
 rw[LZ] at aL;replace aL:=nf aL;refine al λI a w U=>?_;refine St.lo (σ:=Nat) (4::(run 2 6 (run 34 157 []))) ⟨λk2=>[(6,AV.int k2)],λk2=>[],λk2=>k2<=q.aO.length/\∀i,i<k2->(td q) i=true⟩ (λk2=>q.aO.length-k2) 0 U ?eL ?jX;case eL=>exact⟨Nat.zero_le _,λi hi=>by omega⟩
 rintro k2 I a w aj U;obtain⟨xl,iW⟩:=aj;refine bP λI a w U=>?_;refine cz (λbc=>?_) λbc=>?_
 .refine zt ?_;refine U.dk ?_;refine ky ?_;refine .o (.c2 (Ch ..)) ?_;refine br ?_;refine .nil ?_;intro I a w U;refine ba<|wp_seq<|U.dk ?_;refine gS ?_;refine .q .F ((by first|exact fT eD dI .ag .ag (λhg=>by have h0:0<=cQ q (ae q.aO k2).key:=(by simpa using hg);have:=tH h0;omega)|exact iO eD dI .ag .ag (λhg=>by have h0:0<=cQ q (ae q.aO k2).key:=(by simpa using hg);have:=tH h0;omega)|exact iZ eD dI .ag .ag (λhg=>by have h0:0<=cQ q (ae q.aO k2).key:=(by simpa using hg);have:=tH h0;omega))) ?_;refine wg ?_;refine .q .F (.cl (wQ ..)) ?_;refine cy ?_;refine .nil ?_;intro I a w U;refine ba ?_;refine U.cd (λaY=>?_) λaY=>?_
  .rw[Mp] at aY;replace aY:=nt aY;refine aW ?_;exact bT (by rw[vy];rw[fI (f:=td q) bc aY];simp)
  rw[Mp] at aY;replace aY:=nf aY;refine aI λI a w U=>?_;exact U.ag (k2+1) (⟨by omega,gf iW aY⟩)
 refine zt ?_;refine aI λI a w U=>?_;refine cz (λbz=>?_) λbz=>?_
 .refine aA λI a w U=>?_;refine U.o (.bd iI bf.nil) λU=>?_;refine U.o (n1 [_,_] [_,_] qh rfl rfl .tt .tt) λU=>?_;refine aW ?_;exact bT (by rw[vy];rw[ab,ah,fD aT om,aL,fD iW om,B8];unfold B6;rw[if_pos bz];rfl)
 refine lJ λI a w U=>?_;refine U.q .T (cr .ag .c (λhg=>by have:=M5 ab;omega)) λU=>?_;refine U.q .T .mv λU=>?_;refine U.q .T (.cl (iu ..)) λU=>?_;refine E4 λI a w U=>?_;refine U.q .T2 (.cl (uL ..)) λU=>?_;refine E8 λI a w U=>?_;refine U.rt ?_;exact bT (by rw[vy];rw[ab,ah,fD aT om,aL,fD iW om];unfold B6;rw[if_neg bz];rfl)
def PI (l:List Call) (time:Int) (ht:time<=4611686018427387904) (qY:∀q∈l,q.au.length<=1048576):
 Fn prog 87 [jb l,AV.int time] (AV.bool (iX l time)):=by
 refine Fn.go 98 func87 ntmps87 (λW I a U=>?_);have hle:=U.dD (t:=0) rfl;refine aU λI a w U=>?_;refine cz (λab=>?_) λab=>?_
 .refine aW ?_;exact bT (by unfold iX;rw[Vc ab];simp)
 refine al λI a w U=>?_;refine St.lo (σ:=Nat) (run 4 4 (run 87 11 [])) ⟨λk=>[(5,AV.int k)],λk=>[],λk=>k<=l.length/\∀i,i<k->(my l time) i=true⟩ (λk=>l.length-k) 0 U ?aD ?bh;case aD=>exact⟨Nat.zero_le _,λi hi=>by omega⟩
 rintro k I a w aj U;obtain⟨qD,aT⟩:=aj;refine aU λI a w U=>?_;refine cz (λah=>?_) λah=>?_
 .refine zt ?_;refine U.dk ?_;refine fQ ?_;refine .o (.c2 (Du _ _ ht (qY _ (bK ah)))) ?_;refine n5 ?_;refine ee ?_;refine .nil ?_;intro I a w U;refine ba ?_;refine U.cd (λai=>?_) λai=>?_
  .rw[Oi] at ai;replace ai:=nt ai;refine aW ?_;exact bT (by unfold iX;rw[fI (f:=my l time) ah (by rw[CV,ai];rfl)];rfl)
  rw[Oi] at ai;replace ai:=nf ai;refine ax λI a w U=>?_;refine St.lo (σ:=Nat) (4::(run 2 6 (run 48 42 []))) ⟨λk2=>[(7,AV.int k2),(6,AV.int (gn l k2 (ae l k).aB))],λk2=>[],λk2=>k2<=k/\∀i,i<k2->(λj=>!lP (ae l j) (ae l k)) i=true⟩ (λk2=>k-k2) 0 U ?eL ?jX;case eL=>exact⟨Nat.zero_le _,λi hi=>by omega⟩
  rintro k2 I a w aj U;obtain⟨xl,iW⟩:=aj;refine aI λI a w U=>?_;refine cz (λaG=>?_) λaG=>?_
  .refine al λI a w U=>?_;refine cz (λaL=>?_) λaL=>?_
   .refine zt ?_;refine aI λI a w U=>?_;refine U.again (k2+1) ?bM ?bN bF ?bO (by repeat(first|exact Env.le_rfl|refine Env.dj rfl ?_));case bM=>omega
    case bN=>exact⟨by omega,gf iW (by show(!lP (ae l k2) (ae l k))=true;rw[V1 aL];rfl)⟩
    case bO=>exact(Env.bt rfl bF (Env.bt rfl (by first|exact congrArg AV.int (by rw[sa om,if_neg aL])|exact congrArg AV.int (by rw[Oh (aT k2 om),show(ae l k2).aB=(ae l k).aB by omega])) Env.le_nil))
   refine fW λI a w U=>?_;refine U.cd (λbc=>?_) λbc=>?_
   .rw[Mq om] at bc;refine aW ?_;exact bT (by unfold iX;rw[fI (f:=my l time) ah (by rw[CV,fI (f:=λj=>!lP (ae l j) (ae l k)) (k:=k2) om (by rw[bc];rfl)];simp)];rfl)
   rw[Mq om] at bc;refine aI λI a w U=>?_;refine U.again (k2+1) ?nF ?nG bF ?nH (by repeat(first|exact Env.le_rfl|refine Env.dj rfl ?_));case nF=>omega
   case nG=>exact⟨by omega,gf iW (by show(!lP (ae l k2) (ae l k))=true;rw[bc];rfl)⟩
   case nH=>exact(Env.bt rfl bF (Env.bt rfl (by first|exact congrArg AV.int (by rw[sa om,if_neg aL])|exact congrArg AV.int (by rw[Oh (aT k2 om),show(ae l k2).aB=(ae l k).aB by omega])) Env.le_nil))
  refine zt ?_;refine df λI a w U=>?_;refine U.o (cr .tt .c (λ_=>by have:=CI l k2 (ae l k).aB;omega)) λU=>?_;refine al λI a w U=>?_;refine cz (λaY=>?_) λaY=>?_
  .refine aW ?_;exact bT (by unfold iX;rw[fI (f:=my l time) ah (by rw[CV,sa ah,if_pos rfl,show((ae l k).num==gn l k (ae l k).aB+1)=false by(rw[show k2=k by omega] at aY;simpa using aY)];simp)];rfl)
  refine aI λI a w U=>?_;exact U.ag (k+1) (⟨by omega,gf aT (by rw[CV,ai,fD iW om];simp only[Bool.true_and,Bool.and_true,beq_iff_eq];rw[sa ah,if_pos rfl];rw[show k2=k by omega] at aY;omega)⟩)
 refine zt ?_;refine aW ?_;exact bT (by unfold iX;rw[fD aT om];simp;omega)
def PJ (x:aM) (qY:∀q∈x.calls,q.au.length<=1048576):
 Fn prog 33 [x.av] (AV.bool (fN x)):=by
 refine Fn.go 88 func33 ntmps33 (λW I a U=>?_);have lens:x.aF.length<=9223372036854775807/\x.aC.length<=9223372036854775807/\x.calls.length<=9223372036854775807/\x.seen.length<=9223372036854775807:=⟨U.ln 0 1,U.ln 0 2,U.ln 0 3,U.ln 0 4⟩;refine aR λI a w U=>?_;refine U.o (.cl (iu ..)) λU=>?_;refine Sb λI a w U=>?_;refine U.q .F (KI (λhg=>PI x.calls x.time (by simp[aS] at hg;omega) qY) (an .ag (an .ag aH))) λU=>?_;refine ax λI a w U=>?_;refine U.cd (λab=>?_) λab=>?_
 .rw[Oj] at ab;replace ab:=nt ab;refine aW ?_;exact bT (by unfold fN;rw[zJ,zK];revert ab;cases pt x<;>cases iX x.calls x.time<;>simp)
 rw[Oj] at ab;replace ab:=nf ab;refine al λI a w U=>?_;refine St.lo (σ:=Nat) (run 2 2 (run 24 36 [])) ⟨λk=>[(3,AV.int k)],λk=>[],λk=>k<=x.aF.length/\∀i,i<k->(qx x) i=true⟩ (λk=>x.aF.length-k) 0 U ?aD ?bh;case aD=>exact⟨Nat.zero_le _,λi hi=>by omega⟩
 rintro k I a w aj U;obtain⟨qD,aT⟩:=aj;refine bP λI a w U=>?_;refine cz (λah=>?_) λah=>?_
 .refine bV λI a w U=>?_;refine U.o (.c1 (tO ..)) λU=>?_;refine Bs λI a w U=>?_;refine U.cd (λai=>?_) λai=>?_
  .rw[LW] at ai;replace ai:=nt ai;refine aW ?_;exact bT (by unfold fN;rw[zJ,zK];rw[fI (f:=qx x) ah ai];simp)
  rw[LW] at ai;replace ai:=nf ai;refine aI λI a w U=>?_;exact U.ag (k+1) (⟨by omega,gf aT ai⟩)
 refine zt ?_;refine al λI a w U=>?_;refine St.lo (σ:=Nat) (2::(4::(run 14 60 []))) ⟨λk2=>[(4,AV.int k2)],λk2=>[],λk2=>k2<=x.aC.length/\∀i,i<k2->(λi=>bY (ae x.aC i)) i=true⟩ (λk2=>x.aC.length-k2) 0 U ?eL ?jX;case eL=>exact⟨Nat.zero_le _,λi hi=>by omega⟩
 rintro k2 I a w aj U;obtain⟨xl,iW⟩:=aj;refine bP λI a w U=>?_;refine cz (λaG=>?_) λaG=>?_
 .refine bV λI a w U=>?_;refine U.o (.c1 (H8 ..)) λU=>?_;refine al λI a w U=>?_;refine U.cd (λaL=>?_) λaL=>?_
  .replace aL:=nt aL;refine aW ?_;exact bT (by unfold fN;rw[zJ,zK];rw[fI (f:=λi=>bY (ae x.aC i)) aG aL];simp)
  replace aL:=nf aL;refine aI λI a w U=>?_;exact U.ag (k2+1) (⟨by omega,gf iW aL⟩)
 refine zt ?_;refine al λI a w U=>?_;refine St.lo (σ:=Nat) (2::(5::(run 14 74 []))) ⟨λk3=>[(5,AV.int k3)],λk3=>[],λk3=>k3<=x.seen.length/\∀i,i<k3->(λi=>ck (ae x.seen i)) i=true⟩ (λk3=>x.seen.length-k3) 0 U ?iA ?oL;case iA=>exact⟨Nat.zero_le _,λi hi=>by omega⟩
 rintro k3 I a w aj U;obtain⟨N7,tF⟩:=aj;refine bP λI a w U=>?_;refine cz (λbc=>?_) λbc=>?_
 .refine bV λI a w U=>?_;refine U.o (.cl (qN ..)) λU=>?_;refine al λI a w U=>?_;refine U.cd (λaY=>?_) λaY=>?_
  .replace aY:=nt aY;refine aW ?_;exact bT (by unfold fN;rw[zJ,zK];rw[fI (f:=λi=>ck (ae x.seen i)) bc aY];simp)
  replace aY:=nf aY;refine aI λI a w U=>?_;exact U.ag (k3+1) (⟨by omega,gf tF aY⟩)
 refine zt ?_;refine aW ?_;exact bT (by unfold fN;rw[zJ,zK];rw[fD aT om,fD iW om,fD tF om];rw[Bool.and_eq_true] at ab;rw[ab.1,ab.2];rfl)
def abt (q:Call) (t:Int) (hq:fK q t=true) (ht:q.bw+q.end_<=4611686018427387904) (hl:-4611686018427387904<=q.end_) (qY:q.au.length<=1048576):
 Fn prog 308 [q.av] (bm (jT q)):=by
 refine Fn.go 68 func308 ntmps308 (λW I a U=>?_);have lens:q.keys.length<=9223372036854775807/\q.au.length<=9223372036854775807/\q.aO.length<=9223372036854775807:=⟨U.ln 0 3,U.ln 0 11,U.ln 0 12⟩;have hp:=CU hq;have kj:=(su (acc:=[]) rfl hp.2.1).1;have eG:=G8 hq;have Z9:=gU hp.1;have hjo:ck (ji q.ctx (fw q))=true:=xg hp.1 λd hd=>pK kj hd;have nR:=Z5 hp.1 hp.2.1;refine lJ λI a w U=>?_;refine U.o (.c2 (Du _ _ ht qY)) λU=>?_;refine al λI a w U=>?_;refine U.cd (λab=>?_) λab=>?_
 .exfalso;rw[eG] at ab;cases ab;skip
 refine zt ?_;refine U.l0 λqW I a w U=>?_;refine aA λI a w U=>?_;refine U.ap 0 λPK a w U=>?_;obtain⟨I,U⟩:=U.fr 0 17;have U:=U.drop 0;refine aU λI a w U=>?_;refine cz (λah=>?_) λah=>?_
 .refine cK ?_;exact congrArg bm (by unfold jT;rw[if_pos ah])
 refine aI λI a w U=>?_;refine cz (λai=>?_) λai=>?_
 .refine wp_seq<|U.dk ?_;refine ee ?_;refine .o ((by first|exact fT kG cT .tt .c (λ_=>by have:=u9 hp.2.2.1 ai;omega)|exact iO kG cT .tt .c (λ_=>by have:=u9 hp.2.2.1 ai;omega)|exact iZ kG cT .tt .c (λ_=>by have:=u9 hp.2.2.1 ai;omega))) ?_;refine ee ?_;refine .o (.bd fE (.k (.t bf.nil))) ?_;refine .o (.cl (Hu _ ⟨ae q.keys 0,q.aw⟩ hp.1 (Yl hq ai ah))) ?_;refine br ?_;refine .nil ?_;intro I a w U;refine zt ?_;refine U.rt ?_;exact congrArg bm (by unfold jT;rw[if_neg ah,if_pos ai])
 refine aA λI a w U=>?_;refine U.o (.c1 (Z7 _ hp.2.1)) λU=>?_;refine U.o (.cl (HK _ _ hp.1 kj)) λU=>?_;refine ax λI a w U=>?_;refine St.lo (σ:=Nat) (run 2 3 (run 29 38 [])) ⟨λk=>[(4,AV.int k),(3,bm ((q.au.take k).foldl qB (ji q.ctx (fw q))))],λk=>[],λk=>k<=q.au.length⟩ (λk=>q.au.length-k) 0 U ?aD ?bh;case aD=>exact Nat.zero_le _
 rintro k I a w aj U;have hk:k<=q.au.length:=aj;refine bP λI a w U=>?_;refine cz (λaG=>?_) λaG=>?_
 .refine gy λI a w U=>?_;refine cz (λaL=>?_) λaL=>?_
  .refine U.dk ?_;refine rz ?_;refine .o (.bd fE (.k (.t bf.nil))) ?_;refine .o (bx (Hu _ ⟨(ae q.au k).key,(ae q.au k).bl.aw⟩ (CR hjo (xa hp.2.1 k)).1 (by have:=Ai (hp.2.1 _ (bK aG)) aL;rw[<-this.2];exact this.1)) (an .r (an (.t rfl) aH))) ?_;refine br ?_;refine .nil ?_;intro I a w U;refine aI λI a w U=>?_;refine U.again (k+1) ?bM ?bN bF ?bO (by repeat(first|exact Env.le_rfl|refine Env.dj rfl ?_));case bM=>omega
   case bN=>exact aG
   case bO=>exact(Env.bt rfl bF (Env.bt rfl (by exact congrArg bm (by rw[wX aG];unfold qB;rw[aL];rfl)) Env.le_nil))
  refine aI λI a w U=>?_;refine U.again (k+1) ?nF ?nG bF ?nH (by repeat(first|exact Env.le_rfl|refine Env.dj rfl ?_));case nF=>omega
  case nG=>exact aG
  case nH=>exact(Env.bt rfl bF (Env.bt rfl (by exact congrArg bm (by rw[wX aG];unfold qB;rw[aL];rfl)) Env.le_nil))
 refine zt ?_;refine cK ?_;exact congrArg bm (by rw[List.take_of_length_le om,<-nR];unfold Hj;rw[if_neg ah,if_neg ai])
def abv {q:Call} {t:Int} (h:eB q t):ck (jT q)=true:=by
 unfold jT;split
 .exact h.ctx
 rename_i he;split
 .rename_i hk;refine Ag h.ctx ?_;have U:dB q.aw=true:=by
   have h1:=(h.ended he).2.2.2.1 hk;have h2:=h.fits;unfold kr at h2;rw[h1,Bool.false_or] at h2;exact h2
  have hu:kf q.keys=true:=by have:=h.keys;simp only[iz,Bool.and_eq_true] at this;exact this.1
  have h1:q.keys.length=1:=by
   have:=h.keys;simp[iz,hk] at this;omega
  unfold kh;rw[Bool.and_eq_true];exact⟨w8 hu (bK om),U⟩
 exact(xt h.ctx h.cX).1
def abw {w:aM} (h:cF w) (e:Ev) (aj:(jo w e).2=true):cF (jo w e).1:=by
 unfold jo at*;split at aj
 .rename_i hk;rw[if_pos hk];unfold lE at*;split at aj
  .rename_i hc;rw[if_pos hc];exact⟨h.time,h.aF,h.site,h.aC,h.words,h.seen,h.pJ,aj⟩
  cases aj
 rename_i hk;rw[if_neg hk];dsimp only at aj⊢;split
 .exact h
 rename_i hn;obtain⟨h1,h2,h3⟩:=vg (l:=w.calls) (aB:=e.aB) om;have hq:=h.call h1;obtain⟨he,_⟩:=w3 h3;split
 .refine h.O6 h1 h3 ⟨hq.aB,hq.num,hq.keys,hq.val,hq.ctx,hq.aO,hq.bw,hq.fits,hq.has,hq.sorted,hq.cX,hq.xr,hq.full,hq.put,hq.read,hq.open_,λe=>absurd he e⟩ rfl rfl rfl
 exact h.send (O4 hq)
def PL (w:aM) (e:Ev):(gQ w e).1.time=w.time+1:=by
 unfold gQ jo lE iY pH fY;dsimp only;repeat' split
 all_goals rfl
def If {s:Server} {m:az} (h:bE s) (hm:bY m=true) (ho:fR s m.key=true) (hk:(jj (jC s m)&&iv s.ar (gF s m)&&decide (s.aE.length<80))=true):bE {s with ar:=fF s.ar (gF s m),aE:=eN s.aE (gF s m).bD}:=by
 simp only[Bool.and_eq_true,decide_eq_true_eq] at hk;obtain⟨a1,a2,a3⟩:=HL h hm hk.1.1;exact h.put hk.1.2 (by rw[a1]) (by show eY s m.key≠0;rw[(Ci ho).2];omega) hk.2
def abx (s:Server) (hg:bE s):
 Fn prog 278 [s.av] (dW (lD s)):=by
 refine Fn.go 155 func278 ntmps278 (λW I a U=>?_);have aj:=iU.2 hg;have c6:=hg.ok;have lens:s.aQ.length<=9223372036854775807/\s.ar.length<=9223372036854775807/\s.waits.length<=9223372036854775807/\s.aE.length<=9223372036854775807/\s.bq.length<=9223372036854775807:=⟨U.ln 0 2,U.ln 0 3,U.ln 0 4,U.ln 0 5,U.ln 0 6⟩;have h3:=hg.aQ;have Ao:=gV hg.ar;have ki:=gV hg.waits;have jM:=hP hg.aE;have pU:∀v∈s.waits,v.aK.length<=6:=λv hv=>gU (kT (g7 hg.waits v hv)).2.2;have hsd:=GO hg.site;refine ax λI a w U=>?_;refine U.l0 λqW I a w U=>?_;refine aA λI a w U=>?_;refine U.o (.c1 (tO ..)) λU=>?_;refine gy λI a w U=>?_;refine U.cd (λab=>?_) λab=>?_
 .rw[CM] at ab;replace ab:=nt ab;refine ax λI a w U=>?_;obtain⟨I,U⟩:=U.fr 0 2;refine U.rt ?_;exact(by rw[aj,Bool.true_and] at ab;rw[PC ab];rfl)
 rw[CM] at ab;replace ab:=nf ab;rw[Bool.and_eq_true] at ab;refine al λI a w U=>?_;refine St.lo (σ:=Nat×Value) (run 2 3 (run 20 24 [])) ⟨λ⟨n,v⟩=>[(4,AV.int n),(3,AV.val v)],λ⟨n,v⟩=>[Own.row v 108 15 ((nT s n).map az.cells)],λ⟨n,v⟩=>n<=s.aQ.length⟩ (λ⟨n,v⟩=>s.aQ.length-n) (0,.slice (some ⟨qW,0,none⟩) 0 0) U ?aD ?bh;case aD=>exact Nat.zero_le _
 rintro⟨n,v⟩ I a w aj U;have hn:n<=s.aQ.length:=aj;dsimp only at U;refine bP λI a w U=>?_;refine cz (λah=>?_) λah=>?_
 .refine fW λI a w U=>?_;refine cz (λai=>?_) λai=>?_
  .refine aV λI a w U=>?_;refine U.o (bx (O7 s (n:Int) c6.ar c6.waits hg.site h3 om jM) (an (.t rfl) (an (.t rfl) aH))) λU=>?_;refine U.o (.li [(gE s (n:Int)).cells] gj (.u .nil)) λU=>?_;refine U.append 0 rfl dC cH rfl .tt .r rfl (by have:=Hn s n;simp;omega) λtM a w U=>?_;rw[cA,OD (by simpa using ai)] at U;refine aU λI a w U=>?_;exact U.ag (n+1,tM) (ah)
  refine aI λI a w U=>?_;rw[OE (by simpa using ai)] at U;exact U.ag (n+1,v) (ah)
 refine zt ?_;refine aA λI a w U=>?_;refine U.o (.c1 (pq ..)) λU=>?_;refine U.o (tW .c .tt (λ_=>by omega)) λU=>?_;refine ax λI a w U=>?_;rw[OH om] at U;refine al λI a w U=>?_;refine St.lo (σ:=Nat×Value) (3::(run 4 6 (run 49 49 []))) ⟨λ⟨k,v⟩=>[(6,AV.int k),(3,AV.val v)],λ⟨k,v⟩=>[Own.row v 108 15 ((ic s k).map az.cells)],λ⟨k,v⟩=>k<=s.aE.length⟩ (λ⟨k,v⟩=>s.aE.length-k) (0,v) U ?eL ?jX;case eL=>exact Nat.zero_le _
 rintro⟨k,v⟩ I a w aj U;have hk:k<=s.aE.length:=aj;dsimp only at U;refine bP λI a w U=>?_;refine cz (λaG=>?_) λaG=>?_
 .refine zt ?_;have U:=U.dH;refine U.fV [([],none),([],none),([],none),([],none),([],none),([],none),([],none),([],none),([],none),([],none),([],none),([],none),([],none),([],none),([],none),([],none),([],none),([],none),([1],some (1,[7])),([1],some (1,[7])),([],none)] aq aq rfl ?_;refine rz ?_;refine .o (.cl (sj ..)) ?_;refine ee ?_;refine aP.alloc 1 rfl rfl bI dY<|aP.ri 1 rfl bI rfl .tt rfl rfl ?_;refine br ?_;refine .nil ?_;intro I a w U;obtain⟨b7,U⟩:=U.nv (d:=7) 1 rfl rfl;obtain⟨I,U⟩:=U.fb 1 7;obtain⟨vd,qK,Ar,nL⟩:=Nf hg (bK aG);have hva:jA s.ar ⟨(ae s.aE k).key,(ae s.aE k).aw⟩=some vd:=by rw[Ap hg.ar];exact qK
  rw[show(jA s.ar ⟨(ae s.aE k).key,(ae s.aE k).aw⟩).getD default=vd from by rw[hva];rfl] at U;refine ba<|wp_seq<|wp_seq<|U.dk ?_;refine ef ?_;refine .o (.c1 (ta ..)) ?_;refine .o ((by first|exact fT eM dP .tt .tt (λ_=>by have:=ph (pr (g7 hg.ar vd nL));omega)|exact iO eM dP .tt .tt (λ_=>by have:=ph (pr (g7 hg.ar vd nL));omega)|exact iZ eM dP .tt .tt (λ_=>by have:=ph (pr (g7 hg.ar vd nL));omega))) ?_;refine ee ?_;refine .nil ?_;intro I a w U;refine ba ?_;refine cz (λaL=>?_) λaL=>?_
  .refine zt ?_;refine aI λI a w U=>?_;have U:=U.drop 1;rw[YU aG Ar (by simpa using aL)] at U;exact U.ag (k+1,v) (aG)
  refine wp_skip<|ba<|wp_seq ?_;rw[show ic s k=ic s k++(jY s (ae s.aE k)).take 0 from by simp] at U;refine al λI a w U=>?_;refine St.lo (σ:=Nat×Value) (3::(9::(run 15 83 []))) ⟨λ⟨j,v2⟩=>[(9,AV.int j),(3,AV.val v2)],λ⟨j,v2⟩=>[Own.row v2 108 15 ((ic s k++(jY s (ae s.aE k)).take j).map az.cells),Own.gone],λ⟨j,v2⟩=>j<=2⟩ (λ⟨j,v2⟩=>2-j) (0,v) U ?iA ?oL;case iA=>exact Nat.zero_le _
  rintro⟨j,v2⟩ I a w aj U;have hj:j<=2:=aj;dsimp only at U;refine ax λI a w U=>?_;refine cz (λbc=>?_) λbc=>?_
  .refine fm λI a w U=>?_;refine U.o (.li [vd.cells] j9 (.u .nil)) λU=>?_;refine U.o (.bd dN (.k (.k (.k (.k bf.nil))))) λU=>?_;refine U.o (.li [({cg with kind:=5,bj:=s.site,to:=2-2*cv s.site+(j:Int),ar:=[vd]}:az).cells] gj (.u .nil)) λU=>?_;refine U.append 0 rfl dC cH rfl .tt .r rfl (by have:=xo s k hk;simp;omega) λv97 a w U=>?_;rw[cA,OI (by unfold eY;rw[<-Ar];simpa using aL) qK om] at U;refine aU λI a w U=>?_;exact U.ag (j+1,v97) (by show j+1<=2;omega)
  refine zt ?_;refine aI λI a w U=>?_;have U:=U.drop 1;rw[OJ aG om] at U;exact U.ag (k+1,v2) (aG)
 refine zt ?_;refine U.l0 λb98 I a w U=>?_;refine al λI a w U=>?_;rw[PD om] at U;refine al λI a w U=>?_;refine St.lo (σ:=Nat×Value×Value) (3::(run 4 10 (run 54 99 []))) ⟨λ⟨i,v,u⟩=>[(11,AV.int i),(3,AV.val v),(10,AV.val u)],λ⟨i,v,u⟩=>[Own.row v 108 15 ((m7 s (mr s i)).map az.cells),Own.row u 125 3 ((mr s i).map ao.cells)],λ⟨i,v,u⟩=>i<=s.waits.length⟩ (λ⟨i,v,u⟩=>s.waits.length-i) (0,v,.slice (some ⟨b98,0,none⟩) 0 0) U ?Ay ?PM;case Ay=>exact Nat.zero_le _
 rintro⟨i,v,u⟩ I a w aj U;have hi:i<=s.waits.length:=aj;dsimp only at U;refine bP λI a w U=>?_;refine cz (λaY=>?_) λaY=>?_
 .refine al λI a w U=>?_;refine St.lo (σ:=Nat×Value×Value) (3::(10::(run 2 12 (run 47 106 [])))) ⟨λ⟨j,v2,u2⟩=>[(12,AV.int j),(3,AV.val v2),(10,AV.val u2)],λ⟨j,v2,u2⟩=>[Own.row v2 108 15 ((m7 s (ix s i j)).map az.cells),Own.row u2 125 3 ((ix s i j).map ao.cells)],λ⟨j,v2,u2⟩=>j<=(ae s.waits i).aK.length⟩ (λ⟨j,v2,u2⟩=>(ae s.waits i).aK.length-j) (0,v,u) U ?Ig ?abC;case Ig=>exact Nat.zero_le _
  rintro⟨j,v2,u2⟩ I a w aj U;have hj:j<=(ae s.waits i).aK.length:=aj;have hdj:=pU _ (bK aY);dsimp only at U;refine iG λI a w U=>?_;refine cz (λbz=>?_) λbz=>?_
  .refine yR λI a w U=>?_;refine U.alloc rfl cM fE λxc I a w U=>?_;refine al λI a w U=>?_;obtain⟨I,U⟩:=U.fb 2 13;refine aA λI a w U=>?_;refine U.o (.c2 (OS s _ c6.ar)) λU=>?_;refine aR λI a w U=>?_;refine U.q .T (Bo 1 (an .ag (an .ag aH)) rfl (zU (ix s i j) (ae (ae s.waits i).aK j)) (λ_ _ _ h=>h)) λU=>?_;refine ax λI a w U=>?_;refine U.cd (λbR=>?_) λbR=>?_
   .refine aA λI a w U=>?_;refine U.o (.li [(ae (ae s.waits i).aK j).cells] gM (.u .nil)) λU=>?_;refine U.append 1 rfl dw cM rfl .tt .r rfl (by have:=w5 pU i hi;have:=zW s i j;have:=pU _ (bK aY);simp;omega) λabE a w U=>?_;rw[cA,show ix s i j++[(ae (ae s.waits i).aK j)]=ix s i (j+1) from by rw[w4 bz,Cm bR]] at U;refine al λI a w U=>?_;refine U.dt 12 ?_;simp only[TD];refine fQ ?_;refine .o (.c1 (xb _ hg.site)) ?_;refine ef ?_;refine .o (.bd dN (.k (.k (.k (.k (.t bf.nil)))))) ?_;refine .o (.li [(lQ s (ae (ae s.waits i).aK j)).cells] gj (.u .nil)) ?_;refine .nil ?_;intro I a w U;refine U.append 0 rfl dC cH rfl .tt .r rfl (by have:=w5 pU i hi;have:=zW s i j;have:=pU _ (bK aY);have:=xo s _ (Nat.le_refl s.aE.length);simp[m7];omega) λabF a w U=>?_;rw[cA,PA,show ix s i j++[(ae (ae s.waits i).aK j)]=ix s i (j+1) from by rw[w4 bz,Cm bR]] at U;refine aU λI a w U=>?_;have U:=U.drop 2;exact U.ag (j+1,abF,abE) (bz)
   refine aI λI a w U=>?_;have U:=U.drop 2;rw[show ix s i j=ix s i (j+1) from by rw[w4 bz,MH bR]] at U;exact U.ag (j+1,v2,u2) (bz)
  refine zt ?_;refine aI λI a w U=>?_;rw[Gl aY om] at U;exact U.ag (i+1,v2,u2) (aY)
 refine wp_exit<|bU<|bU<|eb<|ba<|wp_seq ?_;rw[Gm s om,H6 ab.2 h3] at U;obtain⟨I,U⟩:=U.fr 0 3;refine aX λI a w U=>?_;refine U.o (bx (GU (lD s) (by have:=PB hg;omega) (λy hy=>vm (H5 hg y hy))) (an .r aH)) λU=>?_;refine aW ?_;rfl
def abG (l:List (Call)) (h:qQ l<=1048576):
 bG prog 105 [jb l] [] (λp:Value×List CT=>p.2.map CT.plain=l) (λp=>[Own.calls KK p.1 p.2]) (λp=>AV.val p.1):=by
 refine bG.intro 23 func105 rfl ntmps105 rfl aq (λW I a U=>?_);have hl:l.length<=1048576:=by unfold qQ at h;omega
 refine aV λI a w U=>?_;refine U.make rfl gz dm g0 rfl .tt .tt om λb7 a w U=>?_;have U:=U.mO;change St _ _ [Own.row (.slice (some ⟨b7,0,none⟩) l.length l.length) KK.call 13 (([]:List CT).map CT.cells++List.replicate (l.length-([]:List CT).length) [AV.val (.int .i64 0),AV.val (.int .i64 0),AV.val (.int .i64 0),AV.rows 1 [],AV.val (.int .i64 0),AV.rows 3 [],AV.val (.int .i64 0),AV.val (.int .i64 0),AV.val (.bool false),AV.val (.int .i64 0),AV.val (.int .i64 0),AV.rows 9 [],AV.rows 3 []]),Own.many (([]:List CT).map λx=>Own.many (CT.owns KK x))] _ _ _ at U;refine ax λI a w U=>?_;refine St.lo (σ:=List CT) (4::(run 14 8 [])) ⟨λts=>[(4,AV.int (ts.length:Nat))],λts=>[Own.row (.slice (some ⟨b7,0,none⟩) l.length l.length) KK.call 13 (ts.map CT.cells++List.replicate (l.length-ts.length) [AV.val (.int .i64 0),AV.val (.int .i64 0),AV.val (.int .i64 0),AV.rows 1 [],AV.val (.int .i64 0),AV.rows 3 [],AV.val (.int .i64 0),AV.val (.int .i64 0),AV.val (.bool false),AV.val (.int .i64 0),AV.val (.int .i64 0),AV.rows 9 [],AV.rows 3 []]),Own.many (ts.map λx=>Own.many (CT.owns KK x))],λts=>ts.map CT.plain=l.take ts.length/\ts.length<=l.length⟩ (λts=>l.length-ts.length) [] U ?aD ?bh;case aD=>exact⟨by simp,Nat.zero_le _⟩
 rintro ts I a w aj U;obtain⟨ig,hk⟩:=aj;dsimp only at U;refine aU λI a w U=>?_;refine cz (λab=>?_) λab=>?_
 .refine aR λI a w U=>?_;refine U.o ((by first|exact fT Fk Ff .tt .tt (λ_=>by first|omega|(simp only[List.length_append,List.length_map,List.length_replicate];omega))|exact iO Fk Ff .tt .tt (λ_=>by first|omega|(simp only[List.length_append,List.length_map,List.length_replicate];omega))|exact iZ Fk Ff .tt .tt (λ_=>by first|omega|(simp only[List.length_append,List.length_map,List.length_replicate];omega)))) λU=>?_;refine U.o .la λU=>?_;refine U.dX [] (aaE (ae l ts.length) (by have:=va (f:=jG) ab;unfold qQ at h;omega)) (an .tt aH) rfl bA rfl λt I a w nU U=>?_;change St _ _ ([Own.row (.slice (some ⟨b7,0,none⟩) l.length l.length) KK.call 13 (ts.map CT.cells++List.replicate (l.length-ts.length) [AV.val (.int .i64 0),AV.val (.int .i64 0),AV.val (.int .i64 0),AV.rows 1 [],AV.val (.int .i64 0),AV.rows 3 [],AV.val (.int .i64 0),AV.val (.int .i64 0),AV.val (.bool false),AV.val (.int .i64 0),AV.val (.int .i64 0),AV.rows 9 [],AV.rows 3 []]),Own.many (ts.map λx=>Own.many (CT.owns KK x))]++CT.owns KK t) _ _ _ at U;refine U.o (cw 0 gz dm .tt .tt rfl (λ_=>by first|omega|(simp only[List.length_append,List.length_map,List.length_replicate];omega))) λU=>?_;refine U.zc 0 dm .tt .tt rfl (by simp only[List.length_append,List.length_map,List.length_replicate];omega) rfl rfl λa w U=>?_;refine aX λI a w U=>?_;refine U.o (cr .tt .c (λ_=>by first|omega|(simp only[List.length_append,List.length_map,List.length_replicate];omega))) λU=>?_;refine al λI a w U=>?_;have U:=St.wC (m:=l.length-(ts++[t]).length) t U ff rfl rfl;refine U.again (ts++[t]) ?bM ?bN bF ?bO (by repeat(first|exact Env.le_rfl|refine Env.dj rfl ?_));case bM=>simp;omega
  case bN=>exact nz ⟨ig,hk⟩ ab nU
  case bO=>exact(Env.bt rfl (by exact congrArg AV.int be) Env.le_nil)
 refine zt ?_;refine ax λI a w U=>?_;have U:=U.wD om;have aT:=nA ⟨ig,hk⟩ om;refine U.cE (_,ts) [0] rfl (.cons (.t rfl) .nil) aT rfl rfl
def Ih (x:aM) (h:ko x<=1048576):
 bG prog 39 [x.av] [] (λt:NT=>NT.plain t=x) (λt=>t.owns KK) (λt=>AV.agg t.cells):=by
 refine bG.intro 24 func39 rfl ntmps39 rfl aq (λW I a U=>?_);refine aX λI a w U=>?_;refine U.alloc rfl dz dT λb2 I a w U=>nn<|sr<|U.alloc rfl dz dT λb3 I a w U=>?_;refine df λI a w U=>?_;refine U.dX [] (aaC x.aF (by unfold ko at h;omega)) (an .r aH) rfl bA rfl λp9 I a w Ii U=>?_;obtain⟨v9,t9⟩:=p9;replace Ii:t9.map ST.plain=x.aF:=Ii;have U:=U.nf;have NU:=U.mP 2 rfl;refine aR λI a w U=>?_;refine U.dX [] (aay x.aC (by unfold ko at h;omega)) (an .r aH) rfl bA rfl λp13 I a w Ij U=>?_;obtain⟨Al,t13⟩:=p13;replace Ij:t13.map WT.plain=x.aC:=Ij;have U:=U.nf;have N6:=U.mP 3 rfl;refine aR λI a w U=>?_;refine U.dX [] (abG x.calls (by unfold ko at h;omega)) (an .r aH) rfl bA rfl λp17 I a w Ik U=>?_;obtain⟨PK,t17⟩:=p17;replace Ik:t17.map CT.plain=x.calls:=Ik;have U:=U.nf;have ahs:=U.mP 4 rfl;refine aR λI a w U=>?_;refine U.dX [] (aaX x.seen (by unfold ko at h;omega)) (an .r aH) rfl bA rfl λp21 I a w Il U=>?_;obtain⟨wM,t21⟩:=p21;replace Il:t21.map DT.x=x.seen:=Il;have U:=U.nf;have Zp:=U.mP 5 rfl;refine aU λI a w U=>?_;refine U.cE (⟨x.time,v9,Al,PK,wM,t9,t13,t17,t21⟩:NT) [2,3,4,5] rfl (.cons (.sx 0) .nil) (by show NT.plain _=x;unfold NT.plain;rw[Ii,Ij,Ik,Il]) rfl rfl
def abK {w:aM} {e:Ev} (h:((e.kind==1)||(e.kind==2)||(e.kind==3))=true):gQ w e=((jo {w with time:=w.time+1} e).1,(jo {w with time:=w.time+1} e).2):=by unfold gQ;rw[if_pos (by simp at h;omega)]
def abL {w:aM} {e:Ev} (h:((e.kind==1)||(e.kind==2)||(e.kind==3))=false) (h2:((e.kind==4)||(e.kind==5))=true):gQ w e=((iY {w with time:=w.time+1} e).1,(iY {w with time:=w.time+1} e).2):=by unfold gQ;rw[if_neg (by simp at h;omega),if_pos (by simpa using h2)]
def abM {w:aM} {e:Ev} (h:((e.kind==1)||(e.kind==2)||(e.kind==3))=false) (h2:((e.kind==4)||(e.kind==5))=false) (h3:(!aS e.kind 6 9||!de e.at_)=true):gQ w e=({w with time:=w.time+1},false):=by
 unfold gQ;rw[if_neg (by simp at h;omega),if_neg (by simpa using h2),if_neg (by simp at h3;simp;intro h9;rcases h3 with h'|h';(rw[h'] at h9;cases h9);exact h')]
def abN {w:aM} {e:Ev} (h:((e.kind==1)||(e.kind==2)||(e.kind==3))=false) (h2:((e.kind==4)||(e.kind==5))=false) (h3:(!aS e.kind 6 9||!de e.at_)=false):gQ w e=((fY {w with time:=w.time+1} e).1,(fY {w with time:=w.time+1} e).2):=by
 unfold gQ;rw[if_neg (by simp at h;omega),if_neg (by simpa using h2),if_pos (by simp at h3⊢;exact h3)]
def fZ (x:aM) (e:Ev):aM×Bool:=
 if e.kind=1\/e.kind=2\/e.kind=3 then jo x e
 else if e.kind=4\/e.kind=5 then iY x e
 else if aS e.kind 6 9&&de e.at_ then fY x e
 else(x,false)
def PN (w:aM) (e:Ev):gQ w e=fZ {w with time:=w.time+1} e:=rfl
def abO {x:aM} {e:Ev} (h:e.kind=1):fZ x e=lE x e:=by unfold fZ jo;rw[if_pos (.inl h),if_pos h]
def abP {x:aM} {e:Ev} (h:e.kind=2\/e.kind=3) (hi:cI x.calls e.aB<0):fZ x e=(x,false):=by unfold fZ jo;rw[if_pos (.inr h),if_neg om];dsimp only;rw[if_pos hi]
def abQ {x:aM} {e:Ev} (h:e.kind=2) (hi:¬cI x.calls e.aB<0):fZ x e=({x with aC:=fe x.aC (jF (ae x.calls (cI x.calls e.aB).toNat))},true):=by
 unfold fZ jo;rw[if_pos (.inr (.inl h)),if_neg om];dsimp only;rw[if_neg hi,if_neg om]
def abR {x:aM} {e:Ev} (h:e.kind=3) (hi:¬cI x.calls e.aB<0):fZ x e=({x with calls:=x.calls.set (cI x.calls e.aB).toNat {ae x.calls (cI x.calls e.aB).toNat with over:=true}},true):=by
 unfold fZ jo;rw[if_pos (.inr (.inr h)),if_neg om];dsimp only;rw[if_neg hi,if_pos h]
def Io {x:aM} {e:Ev} (h:e.kind=4\/e.kind=5):fZ x e=iY x e:=by unfold fZ;rw[if_neg om,if_pos h]
def abS {x:aM} {e:Ev} (h1:¬e.kind=1) (h2:¬(e.kind=2\/e.kind=3)) (h4:¬e.kind=4) (h5:¬e.kind=5) (h:(aS e.kind 6 9&&de e.at_)=false):fZ x e=(x,false):=by
 unfold fZ;rw[if_neg om,if_neg om,h];rfl
def xv {x:aM} {e:Ev} (h:(aS e.kind 6 9&&de e.at_)=true):fZ x e=fY x e:=by
 have h2:=h;simp only[aS,Bool.and_eq_true,decide_eq_true_eq] at h2;unfold fZ;rw[if_neg om,if_neg om,if_pos h]
def wK (l:List Ev) (k:Nat):aM:=(l.take k).foldl (λw e=>(fl w e).1) oi
def Ip {l:List Ev} {k:Nat} (h:¬2000<l.length) (hk:l.length<=k):wK l k=jq l:=by
 unfold wK jq;rw[if_neg h,List.take_of_length_le hk]
def xw (x:aM) (h:ko x<=1048576):Fn prog 39 [x.av] x.av:=(Ih x h).FI
inductive Reach:aM->Prop
 |start:Reach oi
 |step {w:aM} {e:Ev}:Reach w->(gQ w e).2=true->Reach (gQ w e).1
structure Az (n:Nat) (s:Gj):Prop where
 reach:Reach s.w
 time:s.w.time<=n
 len:s.list.length<=n
 fit:∀e∈s.list,e.VI
def Az.mono {n m:Nat} {s:Gj} (h:Az n s) (hm:n<=m):Az m s:=
 ⟨h.reach,by have:=h.time;omega,by have:=h.len;omega,h.fit⟩
def abT {l:List Ev} {k:Nat} (h:k<l.length):(fl (wK l k) (ae l k)).1=wK l (k+1):=by
 unfold wK;rw[ep h,List.foldl_append];rfl
def ga (w:aM) (e:Ev):aM:=if(gQ w e).2=true then(gQ w e).1 else w
def AA (w:aM):aM:=ga w (ev 4 0 0)
def j0 (w:aM):aM:=(List.range 4).foldl (λ(w:aM) (i:Nat)=>ga w (ev 7 i 0)) w
def mz (w:aM) (e:Ev):(ga w e).time<=w.time+1:=by
 unfold ga;split
 .rw[PL];exact Int.le_refl _
 omega
def abU (w:aM):(j0 w).time<=w.time+4:=by
 have:=CO (f:=λ(w:aM) (i:Nat)=>ga w (ev 7 i 0)) (n:=1) (λx i=>mz x _) (List.range 4) w;rw[List.length_range] at this;unfold j0;omega
def AB {w:aM} (h:w.time<99999) (e:Ev):(kY w e).1=ga w e:=by
 unfold kY ga;by_cases hd:(gQ w e).2=true
 .rw[if_pos ⟨h,hd⟩,if_pos hd]
 rw[if_neg (λx=>hd x.2),if_neg hd]
def acu (s:Server) (m:az) (hg:bE s) (hm:bY m=true):
 Fn prog 309 [s.av,m.av] (AV.c8 [(ie s m).1.av,dW (ie s m).2]):=by
 refine Fn.go 150 func309 ntmps309 (λW I a U=>?_);have aj:=iU.2 hg;have c6:=hg.ok;have ki:=nK hm;have zZ:=gU ki.2.2.2;have ahB:aS m.bj 10 11=true\/True:=.inr trivial;have lens:m.aK.length<=9223372036854775807/\m.ar.length<=9223372036854775807/\m.waits.length<=9223372036854775807/\m.aE.length<=9223372036854775807:=⟨U.ln 1 9,U.ln 1 12,U.ln 1 13,U.ln 1 14⟩;refine sr<|U.box rfl .tt λb2 I a w U=>U.o .bp λU=>U.alloc rfl bL di λb4 I a w U=>?_;refine al λI a w U=>?_;refine U.l0 λOP I a w U=>?_;obtain⟨I,U⟩:=U.fr 2 18;refine aV λI a w U=>?_;refine U.o (IM .tt .c (λ_=>by have h9:=tu hm;omega)) λU=>?_;refine aV λI a w U=>?_;refine U.o (.c1 (zH ..)) λU=>?_;refine qg λI a w U=>?_;refine U.q .F (.cl (HZ _ _ aj)) λU=>?_;refine ax λI a w U=>?_;refine U.cd (λab=>?_) λab=>?_
 .rw[Df s m] at ab;replace ab:=nt ab;refine aU λI a w U=>?_;refine U.ret rfl (.cons (.sx 1) (.cons .x aZ.nil)) ?_;exact(by rw[ZU ab];rfl)
 rw[Df s m] at ab;replace ab:=nf ab;refine df λI a w U=>?_;refine U.o (.cl (XB s m.key (m.bj-10) m.call)) λU=>?_;refine aV λI a w U=>?_;refine U.alloc rfl bI dY λb8 I a w U=>?_;refine aU λI a w U=>?_;refine U.cd (λah=>?_) λah=>?_
 .rw[Bool.not_eq_true'] at ah;refine zt ?_;refine U.l0 λb52 I a w U=>?_;refine ax λI a w U=>?_;refine St.lo (σ:=Nat×Value) (run 2 10 (run 16 53 [])) ⟨λ⟨k,v⟩=>[(11,AV.int k),(10,AV.val v)],λ⟨k,v⟩=>[Own.box b2 95 s.cells,Own.box b4 95 [AV.val (.int .i64 0),AV.val (.bool false),AV.rows 2 [],AV.rows 7 [],AV.rows 7 [],AV.rows 3 [],AV.rows 3 []],Own.gone,Own.box b8 54 ((kV s m.key (m.bj-10) m.call).getD default).cells,Own.row v 42 2 (((m.aK.take k).map ao.aw).map cG.cells)],λ⟨k,v⟩=>k<=m.aK.length⟩ (λ⟨k,v⟩=>m.aK.length-k) (0,.slice (some ⟨b52,0,none⟩) 0 0) U ?aD ?bh;case aD=>exact Nat.zero_le _
  rintro⟨k,v⟩ I a w aj U;have hk:k<=m.aK.length:=aj;dsimp only at U;refine bP λI a w U=>?_;refine cz (λai=>?_) λai=>?_
  .refine fm λI a w U=>?_;refine U.o (.li [(ae m.aK k).aw.cells] Bw (.u .nil)) λU=>?_;refine U.append 4 rfl KF jg rfl .tt .r rfl (by simp only[List.length_map,List.length_cons,List.length_nil,List.length_take];omega) λIx a w U=>?_;refine aU λI a w U=>?_;rw[cA,show(m.aK.take k).map ao.aw++[(ae m.aK k).aw]=(m.aK.take (k+1)).map ao.aw from by rw[ep ai,List.map_append];rfl] at U;exact U.ag (k+1,Ix) (ai)
  refine zt ?_;refine aR λI a w U=>?_;refine U.o (.cl (OR _ _ c6.ar)) λU=>?_;refine aV λI a w U=>?_;refine U.alloc rfl bI dY λr9 I a w U=>?_;refine U.sb 5 λU=>?_;obtain⟨I,U⟩:=U.fb 5 12;refine U.s λU=>nn ?_;refine St.cut (σ:=Value) (10::(run 6 77 [])) ⟨λv=>[(10,AV.val v)],λv=>[Own.box b2 95 s.cells,Own.box b4 95 [AV.val (.int .i64 0),AV.val (.bool false),AV.rows 2 [],AV.rows 7 [],AV.rows 7 [],AV.rows 3 [],AV.rows 3 []],Own.gone,Own.box b8 54 ((kV s m.key (m.bj-10) m.call).getD default).cells,Own.row v 42 2 ((jC s m).map cG.cells),Own.gone],λv=>True⟩ U ?acw ?ahC;case acw=>
   refine al λI a w U=>?_;refine U.cd (λaG=>?_) λaG=>?_
   .refine aV λI a w U=>?_;refine U.o (.li [((gD s.ar m.key).getD default).aw.cells] Bw (.u .nil)) λU=>?_;refine U.append 4 rfl KF jg rfl .tt .r rfl (by simp only[List.length_map,List.length_cons,List.length_nil,List.length_take];omega) λIy a w U=>?_;refine al λI a w U=>?_;first|rw[cA,show m.aK.take k=m.aK from List.take_of_length_le om,Cw aG] at U|rw[show m.aK.take k=m.aK from List.take_of_length_le om,Cx aG] at U
    exact U.me Iy k0
   refine zt ?_;first|rw[cA,show m.aK.take k=m.aK from List.take_of_length_le om,Cw aG] at U|rw[show m.aK.take k=m.aK from List.take_of_length_le om,Cx aG] at U
   exact U.me v k0
  rintro v I a w aj U;refine aV λI a w U=>?_;obtain⟨I,U⟩:=U.fr 4 86;refine U.o (.cl (YH s.site (jC s m) hg.site (Hl hg hm))) λU=>?_;refine aV λI a w U=>?_;refine U.alloc rfl jg iI λqW I a w U=>?_;refine U.sb 6 λU=>?_;obtain⟨I,U⟩:=U.fb 6 14;refine al λI a w U=>?_;refine U.dt 13 ?_;simp only[TD];refine kz ?_;refine .o (sT dw cM) ?_;refine cy ?_;refine .o (Bj dw cM rfl .tt .r (λ_=>by simp;omega)) ?_;refine .o (.bd dY (.k (.t (.k (.k (.k (.k bf.nil))))))) ?_;refine .nil ?_;intro I a w U;refine aR λI a w U=>?_;refine U.o (.cl (Dt s.ar (gF s m) c6.ar)) λU=>?_;refine E8 λI a w U=>?_;refine U.cd (λaL=>?_) λaL=>?_
  .rw[OV s m] at aL;replace aL:=nt aL;refine aU λI a w U=>?_;refine U.ret rfl (.cons (.sx 1) (.cons .x aZ.nil)) ?_;exact(by rw[HE ab ah aL];rfl)
  rw[OV s m] at aL;replace aL:=nf aL;refine aI λI a w U=>?_;rw[if_pos (by simp only[Bool.and_eq_true] at aL;exact aL.1.2)] at U;refine df λI a w U=>?_;refine U.o (.bd fE (.k (.t bf.nil))) λU=>?_;refine U.o (bx (G9 s.aE (gF s m).bD (by have:=hP hg.aE;omega)) (an .r (an (.t rfl) aH))) λU=>?_;refine aV λI a w U=>?_;refine U.o (bx (xu {s with ar:=fF s.ar (gF s m),aE:=eN s.aE (gF s m).bD} (If hg hm (by simp only[Bool.and_eq_true] at ab;exact ab.2) aL).ok) (an (.t rfl) aH)) λU=>?_;refine al λI a w U=>?_;refine U.fV (([0],none)::([],none)::([0],none)::([],none)::([],none)::([],none)::([],none)::([],none)::([],none)::([],none)::([3],none)::rp 2 [([1],some (1,[])),([],none)]) aq aq rfl ?_;refine .r [0] (.ls 0) ?_;refine br ?_;refine .r [0] (.lb 0) ?_;refine ky ?_;refine .r [3] (.ls 3) ?_;refine .o (.bd dN (.k (.k (.k (.k (.k (.t bf.nil))))))) ?_;refine .o (.li [({mh s m (gF s m).aw with bj:=(g9 {s with ar:=fF s.ar (gF s m),aE:=eN s.aE (gF s m).bD}).site}).cells] gj (.u .nil)) ?_;refine aP.gZ (x:=AV.any) 1 (λF W0 I0 I γ a w Q U kk=>U.sb 1 λU=>kk _ _ _ U) ?_;refine br ?_;refine .nil ?_;intro I a w U;refine zt ?_;refine U.ret rfl (.cons (.sx 1) (.cons .x aZ.nil)) ?_;exact(by rw[O9 ab ah aL,(Ad _).1];rfl)
 rw[Bool.not_eq_false'] at ah;refine zt ?_;refine U.fV (([0],none)::([],none)::([0],none)::([],none)::([],none)::([],none)::([],none)::([],none)::([],none)::([],none)::([3],none)::rp 2 [([1],some (1,[])),([],none)]) aq aq rfl ?_;refine .r [0] (.ls 0) ?_;refine br ?_;refine .r [0] (.lb 0) ?_;refine ky ?_;refine .r [3] (.ls 3) ?_;refine .o (.bd dN (.k (.k (.k (.k (.k (.t bf.nil))))))) ?_;refine .o (.li [(mh s m ((kV s m.key (m.bj-10) m.call).getD default).aw).cells] gj (.u .nil)) ?_;refine aP.gZ (x:=AV.any) 1 (λF W0 I0 I γ a w Q U kk=>U.sb 1 λU=>kk _ _ _ U) ?_;refine br ?_;refine .nil ?_;intro I a w U;refine zt ?_;refine U.ret rfl (.cons (.sx 1) (.cons .x aZ.nil)) ?_;exact(by rw[O8 ab ah];rfl)
end Go.Proofs.YtldbakcpcfdlaaaGreat
