/- Part 20: contracts of functions, plain facts. -/
import Derived.Test.YtldbakcpcfdlaaaGreatP15
import Derived.Test.YtldbakcpcfdlaaaGreatP16
import Derived.Test.YtldbakcpcfdlaaaGreatP17
import Derived.Test.YtldbakcpcfdlaaaGreatP18
set_option linter.all false
set_option maxRecDepth 100000
set_option maxHeartbeats 4000000
namespace Go.Proofs.YtldbakcpcfdlaaaGreat
open Go Go.RowKit Tryz
attribute [local irreducible] wpList Code.wp Ok
def agS (s:Server) (m:az) (hg:bJ s) (hm:bK m=true):
 Fn prog 311 [s.av,m.av] (AV.dG [(gu s m).1.av,dM (gu s m).2]):=by
 refine Fn.go 115 func311 ntmps311 (λW I a U=>?_);have ao:=jX.2 hg;have dq:=hg.ok;have lP:=nH hm;refine sr<|U.box rfl .tt λb2 I a w U=>U.o .bp λU=>U.alloc rfl cA dS λb4 I a w U=>?_;refine aB λI a w U=>?_;refine U.l0 λux I a w U=>?_;obtain⟨I,U⟩:=U.fr 2 14;refine aB λI a w U=>?_;refine U.dk ?_;refine cG ?_;refine .o (.c1 (tQ ..)) ?_;refine eb ?_;refine .q .F (.cl (sI ..)) ?_;refine cG ?_;refine .q .F (.cl (sI ..)) ?_;refine Fu ?_;refine .q .F (ff (i:=0) di bL .ag .c (λhg=>by simp only[B] at hg;omega)) ?_;refine cG ?_;refine .q .F (.cl (Mc _ _ ao)) ?_;refine fZ ?_;refine .q .F (ff (i:=0) di bL .ag .c (λhg=>by simp only[B] at hg;omega)) ?_;refine dO ?_;refine .q .F (.cl (sI ..)) ?_;refine cG ?_;refine .q .F (.cl (sI ..)) ?_;refine cG ?_;refine .nil ?_;intro I a w U;refine bm ?_;refine U.cd (λae=>?_) λae=>?_
 .rw[TJ] at ae;replace ae:=nt ae;refine aX λI a w U=>?_;refine U.ret rfl (.cons (.sx 1) (.cons .x aV.nil)) ?_;exact(by unfold gu;rw[ae];rfl)
 rw[TJ] at ae;replace ae:=nf ae;refine aG λI a w U=>?_;refine U.o (ff (i:=0) di bL .tt .c (λ_=>by have:=(Dt ae).2.2.1;omega)) λU=>?_;refine U.o .la λU=>?_;refine U.alloc rfl bL ee λb7 I a w U=>?_;refine aB λI a w U=>?_;obtain⟨I,U⟩:=U.fb 3 7;refine dZ λI a w U=>?_;refine U.o (.cl (vr ..)) λU=>?_;refine bk λI a w U=>?_;refine U.alloc rfl bL ee λb8 I a w U=>?_;refine U.sb 4 λU=>?_;obtain⟨I,U⟩:=U.fb 4 8;refine g9 λI a w U=>?_;refine U.o (.cl (vr ..)) λU=>?_;refine bk λI a w U=>?_;refine U.alloc rfl bL ee λm7 I a w U=>?_;refine U.sb 5 λU=>?_;obtain⟨I,U⟩:=U.fb 5 10;refine jW λI a w U=>?_;refine U.cd (λah=>?_) λah=>?_
 .rw[RY s (ab m.an 0) dq.an dq.waits,decide_eq_true_eq] at ah;refine bk λI a w U=>?_;refine U.o (.cl (FN _ _ dq.waits)) λU=>?_;refine jW λI a w U=>?_;refine cz (λaq=>?_) λaq=>?_
  .refine aX λI a w U=>?_;refine U.ret rfl (.cons (.sx 1) (.cons .x aV.nil)) ?_;exact(by unfold gu;rw[ae,if_pos rfl];dsimp only;rw[if_pos ah,aq];rfl)
  refine aR λI a w U=>?_;rw[if_pos aq] at U;refine U.o (.ls 0) λU=>U.o (.c1 (AB {s with waits:=fJ s.waits (ab m.an 0)} (dq.KU aq ah.1))) λU=>?_;refine aB λI a w U=>?_;refine U.gG [([0],none),([],none),([0],none),([],none),([],none),([],none),([],none),([],none),([],none),([],none),([],none),([1],some (1,[])),([],none)] aO aO rfl ?_;refine .r [0] (.ls 0) ?_;refine bG ?_;refine .r [0] (.lb 0) ?_;refine iA ?_;refine .o (.bd eU (.k (.k (.k (.k (.t aZ.nil)))))) ?_;refine .o (.li [({mF s m (ab m.an 0) with aT:=(ef {s with waits:=fJ s.waits (ab m.an 0)}).site}).cells] iN (.u .nil)) ?_;refine bc.ji (x:=AV.any) 1 (λF W0 I0 I γ a w Q U kk=>U.sb 1 λU=>kk _ _ _ U) ?_;refine bG ?_;refine .nil ?_;intro I a w U;refine zt ?_;refine U.ret rfl (.cons (.sx 1) (.cons .x aV.nil)) ?_;exact(by unfold gu;rw[ae,if_pos rfl];dsimp only;rw[if_pos ah,aq,(xf _).1];rfl)
 rw[RY s (ab m.an 0) dq.an dq.waits,decide_eq_false_iff_not] at ah;refine bD λI a w U=>?_;refine U.o (.c1 (AB s dq)) λU=>?_;refine aB λI a w U=>?_;refine U.gG [([0],none),([],none),([0],none),([],none),([],none),([],none),([],none),([],none),([],none),([],none),([],none),([1],some (1,[])),([],none)] aO aO rfl ?_;refine .r [0] (.ls 0) ?_;refine bG ?_;refine .r [0] (.lb 0) ?_;refine iA ?_;refine .o (.bd eU (.k (.k (.k (.k (.t aZ.nil)))))) ?_;refine .o (.li [({mF s m (ab m.an 0) with aT:=(ef s).site}).cells] iN (.u .nil)) ?_;refine bc.ji (x:=AV.any) 1 (λF W0 I0 I γ a w Q U kk=>U.sb 1 λU=>kk _ _ _ U) ?_;refine bG ?_;refine .nil ?_;intro I a w U;refine zt ?_;refine U.ret rfl (.cons (.sx 1) (.cons .x aV.nil)) ?_;exact(by unfold gu;rw[ae,if_pos rfl];dsimp only;rw[if_neg ah,(xf _).1];rfl)
def agq {c:Call} (hc:bT c.ctx=true) (h:∀a∈c.au,dL a=true) {a:Answer} (ha:a∈c.au):CY c a=GO c a:=by
 have Bh:=pY (acc:=[]) rfl h;have uw:=pY hc h;have e1:bI (fT c) a.key=kx c.au a.key:=by
  show bI (c.au.foldl kT []) a.key=_;rw[Bh.2 a.key];show dQ gm _=_;exact pP (DB h a.key)
 have e2:bI (AA c) a.key=dQ (bI c.ctx a.key) (kx c.au a.key):=uw.2 a.key;unfold CY GO;rw[e1,Bool.or_comm,<-CV,<-e2];have U:ua (bI (AA c) a.key):=tZ uw.1 a.key;generalize bI (AA c) a.key=s at U;have hg:=h a ha;rcases U with rfl|U
 .have:dw gm=true:=rfl;rw[this];simp only[Bool.not_true,Bool.false_and];cases hy:a.yes
  .rw[xb hg hy];rfl
  exact Kp (pO (iW (qO hg hy).1).2.1)
 rw[Mr hg U];have:dw s=false:=by have:=pO U;simp[dw];omega
 rw[this];simp
def agr {c:Call} (hc:bT c.ctx=true) (h:∀a∈c.au,dL a=true):Ks c=zd c:=by
 unfold Ks zd;rw[ym];exact Ac rfl λi hi=>by rw[agq hc h (bh hi)]
def zh (w:ai):Bool:=cK w&&sN w 0&&sN w 1
def ags {w:ai} (h:cK w=true) {s:Int} (h0:0<=s) (h1:s<=1):VS (cg w s):=by
 have:=zf h (k:=(2*s).toNat) om;exact GG (pU (CI (Sr this.1)).2.1)
def kb (w:ai) (e:Ev):ai×Bool:=
 if eF e.aj&&decide (cq w.calls e.aj<0) then({w with calls:=w.calls++[ey w e]},jr (w.calls++[ey w e]) w.time) else(w,false)
def g7 (w:ai) (e:Ev):ai×Bool:=
 if e.kind=1 then kb w e else
 let i:=cq w.calls e.aj
 if i<0 then(w,false)
 else if e.kind=3 then({w with calls:=w.calls.set i.toNat {ab w.calls i.toNat with over:=true}},true)
 else({w with al:=eN w.al (gD (ab w.calls i.toNat))},true)
def Mz (x y:List aw) (hx:bT x=true) (hy:bT y=true):
 Fn prog 330 [bE x,bE y] (bE (iX x y)):=by
 refine Fn.go 32 func330 ntmps330 (λW I a U=>?_);have Dp:=iV hx;have af8:=iV hy;refine aG λI a w U=>?_;refine U.o (.cl (tT ..)) λU=>?_;refine bk λI a w U=>?_;refine U.q .F (.cl (tT ..)) λU=>?_;refine aF λI a w U=>?_;refine U.cd (λae=>?_) λae=>?_
 .exfalso;rw[hx,hy] at ae;cases ae;skip
 refine zt ?_;refine U.l0 λAR I a w U=>?_;refine U.m λU=>?_;refine U.ap 0 λUt a w U=>?_;obtain⟨I,U⟩:=U.fr 0 18;have U:=U.drop 0;refine aF λI a w U=>?_;refine St.lo (σ:=Nat) (run 2 5 (run 12 19 [])) ⟨λk=>[(6,AV.int k),(5,bE (iX x (y.take k)))],λk=>[],λk=>k<=y.length⟩ (λk=>y.length-k) 0 U ?aI ?bF;case aI=>exact Nat.zero_le _
 rintro k I a w ao U;have hk:k<=y.length:=ao;refine aX λI a w U=>?_;refine cz (λah=>?_) λah=>?_
 .refine bY λI a w U=>?_;refine U.o (.cl (LF _ _ (Va hx hy k) (qN hy (bh ah)))) λU=>?_;refine aX λI a w U=>?_;refine U.again (k+1) ?hO ?hP dR ?hZ (by repeat(first|exact Env.le_rfl|refine Env.iy rfl ?_));case hO=>omega
  case hP=>exact ah
  case hZ=>exact(Env.dA rfl dR (Env.dA rfl (by exact congrArg bE (by rw[R1 ah])) Env.le_nil))
 refine zt ?_;refine c8 ?_;exact congrArg bE (by rw[List.take_of_length_le om])
def agt (q:Call):
 Fn prog 227 [q.av] (AV.bool (qX q)):=by
 refine Fn.go 100 func227 ntmps227 (λW I a U=>?_);have lens:q.keys.length<=9223372036854775807/\q.au.length<=9223372036854775807/\q.aL.length<=9223372036854775807:=⟨U.ln 0 3,U.ln 0 11,U.ln 0 12⟩;refine iM λI a w U=>?_;refine St.lo (σ:=Nat) (run 3 2 (run 56 11 [])) ⟨λk=>[(11,AV.int k)],λk=>[],λk=>k<=q.au.length/\∀i,i<k->(qW q) i=true⟩ (λk=>q.au.length-k) 0 U ?aI ?bF;case aI=>exact⟨Nat.zero_le _,λi hi=>by omega⟩
 rintro k I a w ao U;obtain⟨mU,aM⟩:=ao;refine aB λI a w U=>?_;refine cz (λae=>?_) λae=>?_
 .refine bk λI a w U=>?_;refine U.alloc rfl fg pM λb4 I a w U=>?_;refine aF λI a w U=>?_;obtain⟨I,U⟩:=U.fb 0 4;refine U.dk ?_;refine eb ?_;refine .o (.cl (SW ..)) ?_;refine pL ?_;refine bG ?_;refine .nil ?_;intro I a w U;refine bm ?_;refine U.cd (λah=>?_) λah=>?_
  .rw[Mp] at ah;replace ah:=nt ah;refine bf ?_;exact bB (by unfold qX o5;rw[eI (f:=qW q) ae (by unfold qW;rw[ah];rfl)];rfl)
  rw[Mp] at ah;replace ah:=nf ah;refine bY λI a w U=>?_;refine U.q .T (.cl (Mn ..)) λU=>?_;refine QZ λI a w U=>?_;refine U.q .T2 (.bd ee aZ.nil) λU=>?_;refine U.q .T2 (.cl (LS _ sE)) λU=>?_;refine aR λI a w U=>?_;refine U.cd (λaq=>?_) λaq=>?_
  .rw[SN] at aq;replace aq:=nt aq;refine bf ?_;exact bB (by unfold qX o5;rw[eI (f:=qW q) ae (by unfold qW;rw[ah,aq];rfl)];rfl)
  rw[SN] at aq;replace aq:=nf aq;refine aF λI a w U=>?_;have U:=U.drop 0;exact U.ag (k+1) (⟨by omega,eY aM (by unfold qW;rw[ah,aq];rfl)⟩)
 refine zt ?_;refine aX λI a w U=>?_;refine St.lo (σ:=Nat) (2::(run 2 6 (run 22 70 []))) ⟨λk2=>[(70,AV.int k2)],λk2=>[],λk2=>k2<=q.aL.length/\∀i,i<k2->(sF q) i=true⟩ (λk2=>q.aL.length-k2) 0 U ?eo ?jK;case eo=>exact⟨Nat.zero_le _,λi hi=>by omega⟩
 rintro k2 I a w ao U;obtain⟨xu,iZ⟩:=ao;refine aB λI a w U=>?_;refine cz (λaK=>?_) λaK=>?_
 .refine aG λI a w U=>?_;refine U.alloc rfl cW gX λb6 I a w U=>?_;refine aB λI a w U=>?_;obtain⟨I,U⟩:=U.fb 0 6;refine bk λI a w U=>?_;refine U.o (.c2 (Us ..)) λU=>?_;refine aB λI a w U=>?_;refine U.dk ?_;refine iA ?_;refine .q .F ((by first|exact ff gP fg .ag .ag (λhg=>by have h0:0<=cv q (ab q.aL k2).key:=(by simpa using hg);have:=xx h0;omega)|exact iT gP fg .ag .ag (λhg=>by have h0:0<=cv q (ab q.aL k2).key:=(by simpa using hg);have:=xx h0;omega)|exact je gP fg .ag .ag (λhg=>by have h0:0<=cv q (ab q.aL k2).key:=(by simpa using hg);have:=xx h0;omega))) ?_;refine dO ?_;refine .q .F (.cl (LR ..)) ?_;refine cG ?_;refine .nil ?_;intro I a w U;refine bm ?_;refine U.cd (λaS=>?_) λaS=>?_
  .rw[SO] at aS;replace aS:=nt aS;refine bf ?_;exact bB (by unfold qX o5;rw[eX aM om,eI (f:=sF q) aK aS];rfl)
  rw[SO] at aS;replace aS:=nf aS;refine aF λI a w U=>?_;have U:=U.drop 0;exact U.ag (k2+1) (⟨by omega,eY iZ aS⟩)
 refine zt ?_;refine dZ λI a w U=>?_;refine U.q .F (.cl (Tv ..)) λU=>?_;refine c8 ?_;exact bB (by unfold qX o5;rw[eX aM om,eX iZ om];rfl)
def agu (q:Call) (hg:∀y∈q.au,dL y=true):
 Fn prog 331 [q.av] (bE (fT q)):=by
 refine Fn.go 23 func331 ntmps331 (λW I a U=>?_);have lens:q.keys.length<=9223372036854775807/\q.au.length<=9223372036854775807/\q.aL.length<=9223372036854775807:=⟨U.ln 0 3,U.ln 0 11,U.ln 0 12⟩;refine aF λI a w U=>?_;refine U.l0 λb5 I a w U=>?_;obtain⟨I,U⟩:=U.fr 0 5;have U:=U.drop 0;refine aF λI a w U=>?_;refine St.lo (σ:=Nat) (run 2 3 (run 16 6 [])) ⟨λk=>[(4,AV.int k),(3,bE ((q.au.take k).foldl kT []))],λk=>[],λk=>k<=q.au.length⟩ (λk=>q.au.length-k) 0 U ?aI ?bF;case aI=>exact Nat.zero_le _
 rintro k I a w ao U;have hk:k<=q.au.length:=ao;refine cF λI a w U=>?_;refine cz (λae=>?_) λae=>?_
 .refine mz λI a w U=>?_;refine U.o (.cl (Mz _ _ (pY (acc:=[]) rfl (yI hg k)).1 (sG (hg _ (bh ae))))) λU=>?_;refine aX λI a w U=>?_;refine U.again (k+1) ?hO ?hP dR ?hZ (by repeat(first|exact Env.le_rfl|refine Env.iy rfl ?_));case hO=>omega
  case hP=>exact ae
  case hZ=>exact(Env.dA rfl dR (Env.dA rfl (by exact congrArg bE (by rw[yR ae];rfl)) Env.le_nil))
 refine zt ?_;refine c8 ?_;exact congrArg bE (by rw[List.take_of_length_le om];rfl)
def agv (q:Call) (hc:bT q.ctx=true) (hg:∀y∈q.au,dL y=true):
 Fn prog 92 [q.av] (AV.bool (zd q)):=by
 refine Fn.go 26 func92 ntmps92 (λW I a U=>?_);have lens:q.keys.length<=9223372036854775807/\q.au.length<=9223372036854775807/\q.aL.length<=9223372036854775807:=⟨U.ln 0 3,U.ln 0 11,U.ln 0 12⟩;refine bx λI a w U=>?_;refine U.alloc rfl qz Q5 λb3 I a w U=>?_;refine U.IG 0 qz .tt .r (by first|exact j6 rfl|exact kg|exact kh|exact kr) rfl rfl λa w U=>?_;refine aX λI a w U=>?_;refine St.lo (σ:=Nat) (5::(run 10 11 [])) ⟨λk=>[(11,AV.int k)],λk=>[Own.box b3 40 [bE ((q.au.take k).foldl kT q.ctx)]],λk=>k<=q.au.length⟩ (λk=>q.au.length-k) 0 U ?aI ?bF;case aI=>exact Nat.zero_le _
 rintro k I a w ao U;have hk:k<=q.au.length:=ao;refine aB λI a w U=>?_;refine cz (λae=>?_) λae=>?_
 .refine aG λI a w U=>?_;refine U.alloc rfl fg pM λb5 I a w U=>?_;refine aB λI a w U=>?_;obtain⟨I,U⟩:=U.fb 1 5;refine bx λI a w U=>?_;refine U.o (.cl (Mt _ _ (pY hc (yI hg k)).1 (sG (hg _ (bh ae))))) λU=>?_;refine U.IG 0 qz .tt .r (by first|exact j6 rfl|exact kg|exact kh|exact kr) rfl rfl λa w U=>?_;refine aF λI a w U=>?_;have U:=U.drop 1;rw[show iX ((q.au.take k).foldl kT q.ctx) (ab q.au k).aY.aQ=(q.au.take (k+1)).foldl kT q.ctx by rw[yR ae];rfl] at U;exact U.ag (k+1) (ae)
 refine zt ?_;refine aG λI a w U=>?_;change St _ _ [Own.box b3 40 [bE ((q.au.take k).foldl kT q.ctx)]] _ _ _ at U;rw[List.take_of_length_le om] at U;obtain⟨I,U⟩:=U.fb 0 3;refine U.o (nu (ax .tt aH)) λU=>?_;refine U.o (.cl (af3 q.au (GO q) _ (λv _=>Fn.val (aff v (AA q))))) λU=>?_;refine c8 ?_;rfl
def agw {s:Server} {m:az} (h:bJ s) (hu:s.up=true):bJ (ib s m):=by
 unfold ib;split
 .rename_i hc;simp only[Bool.and_eq_true,decide_eq_true_eq] at hc;obtain⟨v,hv,hd⟩:=Du.1 hc.1.2;exact(h.Vk (Dg (iW (fw h.waits v hv)).2.2 _ hd) hc.2 hu).settle
 exact h
def agx {s:Server} {m:az} (h:bJ s) (hm:bK m=true):bJ (jL s m):=by
 unfold jL;split
 .exact(Ui h hm).settle
 exact h
def agy {s:Server} {m:az} (h:bJ s):bJ (gq s m).1:=by
 unfold gq;split
 .split
  .exact h
  split
  .rename_i hc;simp only[Bool.and_eq_true] at hc;exact(jX.1 hc.2).settle
  exact h
 exact h
def agz {s:Server} {m:az} (h:bJ s) (hm:bK m=true):∀w∈gR s m,bK w=true:=by
 unfold gR;split
 .split
  .intro w hw;obtain rfl:w=_:=by simpa using hw
   exact Uy h hm λv hv=>fw h.an v (uj hv).1
  split
  .rename_i v hv;intro w hw;obtain rfl:w=_:=by simpa using hw
   exact Uy h hm λu hu=>by cases hu;exact fw h.an v (AJ hv).1
  intro w hw;simp at hw
 intro w hw;simp at hw
def agA {s:Server} {m:az} (h:bJ s) (hm:bK m=true):∀w∈(gu s m).2,bK w=true:=by
 unfold gu;split
 .rename_i hr;have hv:dN (ab m.an 0)=true:=fw (nH hm).1 _ (bh (by rw[(Dt hr).2.2.1];omega));dsimp only;split
  .split
   .intro w hw;obtain rfl:w=_:=by simpa using hw
    exact Uz h hm hv
   intro w hw;simp at hw
  intro w hw;obtain rfl:w=_:=by simpa using hw
  exact Uz h hm hv
 intro w hw;simp at hw
def agB {s:Server} {m:az} (h:bJ s) (hm:bK m=true):∀w∈(gq s m).2,bK w=true:=by
 unfold gq;split
 .split
  .intro w hw;obtain rfl:w=_:=by simpa using hw
   exact UA h hm
  split
  .intro w hw;obtain rfl:w=_:=by simpa using hw
   exact UA h hm
  intro w hw;simp at hw
 intro w hw;simp at hw
def agC (s:Server) (m:az) (ao:fK s) (h0:cM s.site=true):
 Fn prog 314 [s.av,m.av] ((ib s m).av):=by
 refine Fn.go 37 func314 ntmps314 (λW I a U=>?_);have h8:=ao.ba;refine sr<|U.box rfl .tt λb2 I a w U=>U.o .bp λU=>U.alloc rfl cA dS λb4 I a w U=>?_;refine bx λI a w U=>?_;refine U.o (.bd gX (.k (.t aZ.nil))) λU=>?_;refine U.alloc rfl cW gX λb5 I a w U=>?_;refine aB λI a w U=>?_;obtain⟨I,U⟩:=U.fb 2 5;refine U.dk ?_;refine eb ?_;refine .o (.c1 (AI _ h0)) ?_;refine eb ?_;refine .q .F (.cl (RP s ⟨m.key,m.ar⟩)) ?_;refine ny ?_;refine .nil ?_;intro I a w U;refine bm ?_;refine U.cd (λae=>?_) λae=>?_
 .rw[SB s m] at ae;replace ae:=nt ae;refine aF λI a w U=>?_;refine U.ret rfl (.cons (.sx 1) aV.nil) ?_;exact(by unfold ib;rw[ae];rfl)
 rw[SB s m] at ae;replace ae:=nf ae;refine bk λI a w U=>?_;refine U.o (bO (Le s.ba ⟨m.key,m.ar⟩ om) (ax .r (ax (.t rfl) aH))) λU=>?_;refine bk λI a w U=>?_;refine U.o (bO (AB {s with ba:=eA s.ba ⟨m.key,m.ar⟩} (ao.Uv (by simp only[B] at ae;omega))) (ax (.t rfl) aH)) λU=>?_;refine aB λI a w U=>?_;refine U.ret rfl (.cons (.sx 1) aV.nil) ?_;exact(by unfold ib;rw[ae];rfl)
set_option maxHeartbeats 8000000 in
def Bi (s:Server) (ao:fK s) (ho:s.aE.length<=80):
 Fn prog 350 [s.av] ((ef s).av):=by
 refine Fn.go 40 func350 ntmps350 (λW I a U=>?_);have nj:=ao;have ja:=ao.small om;refine bD λI a w U=>?_;refine U.alloc rfl cA dS λb2 I a w U=>?_;refine bD λI a w U=>?_;refine U.cY [] (DA s ja) (ax .tt aH) rfl aP rfl λ⟨vS,vV,vW,vO,vK⟩ I a w GV U=>?_;refine U.alloc rfl cA dS λb3 I a w U=>?_;refine U.sb 6 λU=>?_;refine wpList_nil ?_;obtain⟨I,U⟩:=U.fu 1 2 6;obtain⟨I,U⟩:=U.fu 2 3 6;obtain⟨I,U⟩:=U.fu 4 5 6;refine bm ?_;refine St.cut (σ:=Server×Value) (4::(run 26 7 [])) ⟨λ⟨x,u⟩=>[],λ⟨x,u⟩=>[Own.box b2 95 [AV.val (.int .i64 0),AV.val (.bool false),AV.rows 2 [],AV.rows 7 [],AV.rows 7 [],AV.rows 3 [],AV.rows 3 []],Own.gone,Own.gone,Own.row u 54 7 (x.waits.map aA.cells),Own.gone,Own.row vK 125 3 (x.ba.map aw.cells),Own.box b3 95 [AV.int x.site,AV.bool x.up,tE x.aD,bU x.an,AV.val u,bE x.aE,AV.val vK]],λ⟨x,u⟩=>fK x/\ir x=ir s/\x.aE=s.aE/\dI x<0⟩ U ?DM ?Vt;case DM=>
  refine wp_block ?_;refine St.lo (σ:=Server×Value) (4::(run 26 7 [])) ⟨λ⟨x,u⟩=>[],λ⟨x,u⟩=>[Own.box b2 95 [AV.val (.int .i64 0),AV.val (.bool false),AV.rows 2 [],AV.rows 7 [],AV.rows 7 [],AV.rows 3 [],AV.rows 3 []],Own.gone,Own.gone,Own.row u 54 7 (x.waits.map aA.cells),Own.gone,Own.row vK 125 3 (x.ba.map aw.cells),Own.box b3 95 [AV.int x.site,AV.bool x.up,tE x.aD,bU x.an,AV.val u,bE x.aE,AV.val vK]],λ⟨x,u⟩=>fK x/\ir x=ir s/\x.aE=s.aE⟩ (λ⟨x,u⟩=>x.waits.length) (s,vW) U ?aI ?bF;case aI=>exact⟨ao,rfl,rfl⟩
  rintro⟨x,u⟩ I a w ao U;obtain⟨hx,nZ,xz⟩:=ao;dsimp only at U;have uv:=ob hx.an;have hwd:=ob hx.waits;have qm:=ga hx.an;have lP:=ga hx.waits;refine aX λI a w U=>?_;refine cz (λae=>?_) λae=>?_
  .refine aG λI a w U=>?_;refine U.o (nu (ax .tt aH)) λU=>?_;refine U.o (Fo (xs:=[AV.val u,AV.fn 362 [AV.val (.pointer (some ⟨b3,0,none⟩))]]) (tK:=[bU x.waits,AV.fn 362 [AV.ptr x.cells]]) (J8 x.waits (iC x) _ (λv hv=>Fn.val (aeV x v hx.aD (si (fw hx.waits v hv))))) (ax .tt (ax .tt aH)) (λc I a w U=>by obtain⟨I,U,hf⟩:=U.wy 3 rfl;have U:=U.nY (q:=4) 6 rfl rfl hf;have U:=U.z7 (t:=0) rfl hf;obtain⟨I,U⟩:=U.fu 5 6 6;obtain⟨I,U⟩:=U.fc 6 1 0;exact⟨_,_,_,U,rfl,rfl,trivial⟩)) λU=>?_;refine aB λI a w U=>?_;have hid:dI x=df (iC x) x.waits:=adJ om;refine aF λI a w U=>?_;refine cz (λah=>?_) λah=>?_
   .refine zt ?_;exact U.me (x,u) (by first|exact⟨hx,nZ,xz,S9 om⟩|exact⟨hx,nZ,xz,by omega⟩)
   have qw:0<=dI x:=by omega
   obtain⟨Ab,qD,l6⟩:=wW qw;have Vu:=hx.yv qw;have fL:=RJ qw;obtain⟨n,hn⟩:∃n:Nat,(dI x).toNat=n:=⟨_,rfl⟩;rw[hn] at Ab Vu fL l6;rw[show df (iC x) x.waits=(n:Int) by omega] at U;refine zt ?_;obtain⟨bu,cu,rfl⟩:=U.ku 3 rfl lf;refine U.dt 9 ?_;simp only[TD];refine fZ ?_;refine .o (jF di bL .tt .tt (λ_=>by rw[List.length_map];omega)) ?_;refine .o (tw 3 bL .tt rfl (λ_=>by exact gB Ab) rfl) ?_;refine .o (bO (GQ x.an (ab x.waits n) om (λy hy=>by have:=uv y hy;omega) (by have:=hwd _ (bh Ab);omega)) (ax .r (ax (.t rfl) aH))) ?_;refine bG ?_;refine .nil ?_;intro I a w U;refine U.s1 6 λU=>?_;refine bY λI a w U=>?_;refine U.cY [3] (acr _ (x.waits.map aA.cells) n (by rw[List.length_map];exact Ab) lf (λr hr=>by obtain⟨y,_,rfl⟩:=List.mem_map.1 hr;rfl)) (ax .r (ax .tt (ax .tt aH))) rfl aP rfl λu2 I a w arp U=>?_;rw[<-List.map_take,<-List.map_drop,<-List.map_append] at U;refine U.o .fv λU=>?_;try have arq:=U.fI 3 rfl
   refine U.s1 6 λU=>?_;refine zt ?_;exact U.ag (mT x n,u2) (⟨Vu,fL.symm.trans nZ,xz⟩) (hμ:=by show(mT x n).waits.length<x.waits.length;rw[FM Ab];omega)
  refine zt ?_;exact U.me (x,u) (by first|exact⟨hx,nZ,xz,S9 om⟩|exact⟨hx,nZ,xz,by omega⟩)
 rintro⟨x,u⟩ I a w ao U;obtain⟨hx,nZ,xz,GC⟩:=ao;dsimp only at U;have fL:=aec nZ GC;have agE:um {x with ba:=x.ba.filter λd=>!(!iq x d)}:=by rw[<-fL];exact(nj.settle).small (by rw[(xf s).2.2.2];omega)
 refine wp_seq ?_;obtain⟨I,U⟩:=U.fu 3 4 6;refine aG λI a w U=>?_;refine U.o (nu (ax .tt aH)) λU=>?_;refine U.cY [5,6] (Kn vK x.ba (λd=>!iq x d) _ (Own.box b3 95 [AV.int x.site,AV.bool x.up,tE x.aD,bU x.an,bU x.waits,bE x.aE,AV.val vK]) (by have:=hx.ba;omega) (λd hd=>jV.val (adI b3 x (AV.val vK) d))) (ax .r (ax .tt aH)) rfl aP rfl λVv I a w GW U=>?_;refine U.o .fv λU=>?_;try have ars:=U.fI 5 rfl
 refine U.s1 6 λU=>?_;refine nn<|wp_seq ?_;obtain⟨I,U⟩:=U.fu 5 6 6;refine bD λI a w U=>?_;refine U.o (.c1 (vL {x with ba:=x.ba.filter λd=>!(!iq x d)} agE)) λU=>?_;refine aB λI a w U=>?_;refine U.ret rfl (.cons (.sx 0) aV.nil) ?_;exact(by rw[fL];rfl)
def agF (s:Server) (m:az) (hg:bJ s) (hm:bK m=true) (ho:(cM m.aT&&(bM m.aT !=bM s.site))=true):
 Fn prog 344 [s.av,m.av] (AV.dG [(gu s m).1.av,dM (gu s m).2]):=by
 refine Fn.go 76 func344 ntmps344 (λW I a U=>?_);have ao:=jX.2 hg;have dq:=hg.ok;have ja:=hg.small;have lP:=nH hm;have lens:m.aQ.length<=9223372036854775807/\m.an.length<=9223372036854775807/\m.waits.length<=9223372036854775807/\m.aE.length<=9223372036854775807:=⟨U.ln 1 9,U.ln 1 12,U.ln 1 13,U.ln 1 14⟩;have h3:=hg.aD;refine aG λI a w U=>?_;refine U.alloc rfl cA dS λb4 I a w U=>?_;refine aB λI a w U=>?_;refine U.dk ?_;refine ny ?_;refine .q .F (ff (i:=0) di bL .ag .c (λhg=>by simp at hg;omega)) ?_;refine cG ?_;refine .q .F (.cl (AX s (ab m.an 0).key h3)) ?_;refine iA ?_;refine .q .F (ff (i:=0) di bL .ag .c (λhg=>by simp at hg;omega)) ?_;refine bG ?_;refine .q .F (.cl (K8 ..)) ?_;refine cG ?_;refine .nil ?_;intro I a w U;refine bm ?_;refine U.cd (λae=>?_) λae=>?_
 .rw[TQ ho] at ae;replace ae:=nt ae;refine aR λI a w U=>?_;refine U.ret rfl (.cons (.sx 0) (.cons (.nil (sz:=15) rfl) aV.nil)) ?_;exact(by unfold gu;rw[ae];rfl)
 rw[TQ ho] at ae;replace ae:=nf ae;refine aG λI a w U=>?_;refine U.o (ff (i:=0) di bL .tt .c (λ_=>by have:=(Dt ae).2.2.1;omega)) λU=>?_;refine U.o .la λU=>?_;refine U.alloc rfl bL ee λb6 I a w U=>?_;refine aB λI a w U=>?_;obtain⟨I,U⟩:=U.fb 1 6;refine U.o .la λU=>?_;refine U.o (.c1 (vL s ja)) λU=>U.alloc rfl cA dS λb7 I a w U=>?_;refine aB λI a w U=>?_;refine U.dk ?_;refine dO ?_;refine .o (.c1 (nA ..)) ?_;refine .o (.cl (oH ..)) ?_;refine fZ ?_;refine .q .T (.cl (nA ..)) ?_;refine .q .T (.cl (oH ..)) ?_;refine cG ?_;refine .nil ?_;intro I a w U;refine bm ?_;refine tN (λah=>?_) λah=>?_
 .refine bk λI a w U=>?_;refine U.o (.cl (Vm _ _ dq.waits)) λU=>?_;refine jW λI a w U=>?_;refine cz (λaq=>?_) λaq=>?_
  .refine aR λI a w U=>?_;refine U.ret rfl (.cons (.sx 0) (.cons (.nil (sz:=15) rfl) aV.nil)) ?_;exact(by unfold gu;rw[ae,if_pos rfl];dsimp only;rw[if_pos ah,aq];rfl)
  refine aR λI a w U=>?_;rw[if_pos aq] at U;refine U.dt 10 ?_;simp only[TD];refine bG ?_;refine .o (.c1 (Bi {s with waits:=fJ s.waits (ab m.an 0)} (dq.KU aq ah.1) (iP hg.aE))) ?_;refine iA ?_;refine .o (.bd eU (.k (.k (.t aZ.nil)))) ?_;refine .o (.c3 (vI s m ⟨6,0,0,0,(ab m.an 0).key,(ab m.an 0).ar,0,false,[],0,0,[],[],[]⟩ (yU ..)))<|.nil ?_;intro I a w U;refine aF λI a w U=>?_;refine U.ret rfl (.cons (.sx 0) (.cons .x aV.nil)) ?_;exact(by unfold gu;rw[ae,if_pos rfl];dsimp only;rw[if_pos ah,aq];rfl)
 rw[<-Bool.not_eq_true] at ah;simp only[B] at ah;refine zt ?_;refine U.dt 10 ?_;simp only[TD];refine bG ?_;refine .o (.c1 (Bi s dq (iP hg.aE))) ?_;refine iA ?_;refine .o (.bd eU (.k (.k (.t aZ.nil)))) ?_;refine .o (.c3 (vI s m ⟨6,0,0,0,(ab m.an 0).key,(ab m.an 0).ar,0,false,[],0,0,[],[],[]⟩ (yU ..)))<|.nil ?_;intro I a w U;refine aF λI a w U=>?_;refine U.ret rfl (.cons (.sx 0) (.cons .x aV.nil)) ?_;exact(by unfold gu;rw[ae,if_pos rfl];dsimp only;rw[if_neg ah];rfl)
def agG {q:Call} {k:Nat} (hw:bV q=true) (hk:¬q.kind=1) (h:q.aL.length<=k):uu q k=gD q:=by
 unfold gD asks uu qU;rw[if_pos hw,if_neg hk,List.take_length,List.take_of_length_le h,List.map_append,List.flatten_append,List.map_map,List.map_map];rfl
def Vw (x:ai) (h:A9 x):
 dp prog 64 [x.av] [] (λ_=>True) x.TU x.av4:=by
 refine dp.intro 62 func64 rfl ntmps64 rfl aO (λW I a U=>?_);obtain⟨⟨h1,h2⟩,⟨h3,h4⟩,⟨h5,h6⟩,h7,h8⟩:=h;have U:=U.ik (sz:=7) 95;have U:=U.ik (sz:=13) 45;have U:=U.ik (sz:=1) 40;refine bD λI a w U=>?_;refine U.alloc rfl dP dW λb2 I a w U=>?_;refine zt ?_;have U:=U.jj;have U:=U.jj;have U:=U.jj;refine U.Cu 7 _ (rp 4 [([5],some (5,[14])),([6],some (6,[15,14])),([4],some (4,[3]))]) rfl aO aO rfl ?_;simp only[TD];refine eb ?_;refine bc.pG 5 rfl rfl (aeO x.al h3 h4) (ax .r aH) ?_;refine bc.JS 6 [14] (λa=>AV.agg [AV.int x.time,AV.val (.slice none 0 0),AV.val (a.tmps.getD 14 undef),AV.val (.slice none 0 0),AV.val (.slice none 0 0)]) rfl rfl rfl rfl (λa b h=>by simp only[List.forall_mem_cons] at h;simp only[h]) rfl (λF a I he=>Ok.to (.bd Ak (.k (aZ.c abi rfl .tt (yj (t:=14) he) aZ.nil)))) ?_;refine bc.alloc 4 rfl rfl dP dW<|.nil ?_;intro I a w U;obtain⟨b3,U⟩:=U.oC (d:=3) 4 rfl rfl;change St _ _ [Own.row (.slice none 0 0) 95 7 [],Own.row (.slice none 0 0) 45 13 [],Own.row (.slice none 0 0) 40 1 [],Own.box b2 28 [AV.val (.int .i64 0),AV.rows 7 [],AV.rows 15 [],AV.rows 13 [],AV.rows 1 []],Own.box b3 28 _,Own.row (a.tmps.getD 14 undef) 108 15 (x.al.map az.cells),Own.is (AV.agg [AV.int x.time,AV.val (.slice none 0 0),AV.val (a.tmps.getD 14 undef),AV.val (.slice none 0 0),AV.val (.slice none 0 0)]) (a.tmps.getD 15 undef)] _ _ _ at U;have U:=U.JU (d:=15) 6 rfl;have U:=U.drop 6;generalize a.tmps.getD 14 undef=m8 at U;show wpList _ _ _ _ _ _;refine cF λI a w U=>?_;refine St.lo (σ:=Nat×Value) (5::(run 12 19 [])) ⟨λ⟨k,p⟩=>[(19,AV.int k)],λ⟨k,p⟩=>[Own.row p 95 7 ((x.aC.take k).map Server.cells),Own.row (.slice none 0 0) 45 13 ([]),Own.row (.slice none 0 0) 40 1 ([]),Own.box b2 28 [AV.val (.int .i64 0),AV.rows 7 [],AV.rows 15 [],AV.rows 13 [],AV.rows 1 []],Own.box b3 28 [AV.int x.time,AV.val p,AV.val m8,AV.val (.slice none 0 0),AV.val (.slice none 0 0)],Own.row m8 108 15 (x.al.map az.cells)],λ⟨k,p⟩=>k<=x.aC.length⟩ (λ⟨k,p⟩=>x.aC.length-k) (0,(.slice none 0 0)) U ?aI ?bF;case aI=>exact Nat.zero_le _
 rintro⟨k,p⟩ I a w ao U;have hk:k<=x.aC.length:=ao;dsimp only at U;refine aB λI a w U=>?_;refine cz (λae=>?_) λae=>?_
 .refine aG λI a w U=>?_;refine U.alloc rfl cA dS λb5 I a w U=>?_;refine aB λI a w U=>?_;obtain⟨I,U⟩:=U.fb 6 5;refine U.dt 5 ?_;simp only[TD];refine dO ?_;refine .o (.c1 (vL _ (h2 _ (bh ae)))) ?_;refine .o (.li [(ab x.aC k).cells] Fy (.u .nil)) ?_;refine .nil ?_;intro I a w U;refine U.ap 0 λKW a w U=>?_;rw[cJ,<-fe ae] at U;refine U.o .fv λU=>?_;try have art:=U.fI 0 rfl
  refine aR λI a w U=>?_;have U:=U.drop 6;exact U.ag (k+1,KW) (ae)
 refine wp_exit<|cB<|cB<|fo<|bm<|wp_seq<|wp_seq ?_;rw[List.take_of_length_le om] at U;refine aX λI a w U=>?_;refine St.lo (σ:=Nat×Value) (7::(run 12 34 [])) ⟨λ⟨k,q⟩=>[(34,AV.int k)],λ⟨k,q⟩=>[Own.row p 95 7 (x.aC.map Server.cells),Own.row q 45 13 ((x.calls.take k).map Call.cells),Own.row (.slice none 0 0) 40 1 ([]),Own.box b2 28 [AV.val (.int .i64 0),AV.rows 7 [],AV.rows 15 [],AV.rows 13 [],AV.rows 1 []],Own.box b3 28 [AV.int x.time,AV.val p,AV.val m8,AV.val q,AV.val (.slice none 0 0)],Own.row m8 108 15 (x.al.map az.cells)],λ⟨k,q⟩=>k<=x.calls.length⟩ (λ⟨k,q⟩=>x.calls.length-k) (0,(.slice none 0 0)) U ?eo ?jK;case eo=>exact Nat.zero_le _
 rintro⟨k,q⟩ I a w ao U;have hk:k<=x.calls.length:=ao;dsimp only at U;refine aB λI a w U=>?_;refine cz (λah=>?_) λah=>?_
 .refine aG λI a w U=>?_;refine U.alloc rfl eJ im λb7 I a w U=>?_;refine aB λI a w U=>?_;obtain⟨I,U⟩:=U.fb 6 7;refine U.dt 5 ?_;simp only[TD];refine dO ?_;refine .o (.c1 (UX _ (h6 _ (bh ah)))) ?_;refine .o (.li [(ab x.calls k).cells] Fw (.u .nil)) ?_;refine .nil ?_;intro I a w U;refine U.ap 1 λGX a w U=>?_;rw[cJ,<-fe ah] at U;refine U.o .fv λU=>?_;try have agH:=U.fI 1 rfl
  refine aR λI a w U=>?_;have U:=U.drop 6;exact U.ag (k+1,GX) (ah)
 refine wp_exit<|cB<|cB<|fo<|bm<|wp_seq<|wp_seq ?_;rw[List.take_of_length_le om] at U;refine aX λI a w U=>?_;refine St.lo (σ:=Nat×Value) (9::(run 12 49 [])) ⟨λ⟨k,r⟩=>[(49,AV.int k)],λ⟨k,r⟩=>[Own.row p 95 7 (x.aC.map Server.cells),Own.row q 45 13 (x.calls.map Call.cells),Own.row r 40 1 ((x.seen.take k).map gy),Own.box b2 28 [AV.val (.int .i64 0),AV.rows 7 [],AV.rows 15 [],AV.rows 13 [],AV.rows 1 []],Own.box b3 28 [AV.int x.time,AV.val p,AV.val m8,AV.val q,AV.val r],Own.row m8 108 15 (x.al.map az.cells)],λ⟨k,r⟩=>k<=x.seen.length⟩ (λ⟨k,r⟩=>x.seen.length-k) (0,(.slice none 0 0)) U ?iD ?od;case iD=>exact Nat.zero_le _
 rintro⟨k,r⟩ I a w ao U;have hk:k<=x.seen.length:=ao;dsimp only at U;refine aB λI a w U=>?_;refine cz (λaq=>?_) λaq=>?_
 .refine aR λI a w U=>?_;refine U.dt 5 ?_;simp only[TD];refine dO ?_;refine .o (.cl (vu _ (h8 _ (bh aq)))) ?_;refine .o (.li [gy (ab x.seen k)] JQ (.v .nil)) ?_;refine .nil ?_;intro I a w U;refine U.ap 2 λv58 a w U=>?_;rw[cJ,<-fe aq] at U;refine U.o .fv λU=>?_;try have aru:=U.fI 2 rfl
  refine aR λI a w U=>?_;exact U.ag (k+1,v58) (aq)
 refine wp_exit<|cB<|cB<|fo<|bm<|wp_seq ?_;rw[List.take_of_length_le om] at U;refine aF λI a w U=>?_;exact U.dx (p,m8,q,r) [0,5,1,2] rfl (.cons (.s 3 dP rfl rfl (by first|rfl|assumption)) .nil) trivial rfl rfl
def MA (x:ai) (h:A9 x):Fn prog 64 [x.av] x.av:=(Vw x h).frozen λr c I a w _ U=>by
 obtain⟨I,U⟩:=U.fa 0 0 1;obtain⟨I,U⟩:=U.fa 1 0 2;obtain⟨I,U⟩:=U.fa 2 0 3;obtain⟨I,U⟩:=U.fa 3 0 4;exact⟨_,_,_,U⟩
def agJ (q:Call) (n:Value) (hg:∀y∈q.au,dL y=true) (hl:q.au.length<=1048576):
 Fn prog 331 [q.A0 n] (bE (fT q)):=by
 refine Fn.go 23 func331 ntmps331 (λW I a U=>?_);refine aF λI a w U=>?_;refine U.l0 λb5 I a w U=>?_;obtain⟨I,U⟩:=U.fr 0 5;have U:=U.drop 0;refine aF λI a w U=>?_;refine St.lo (σ:=Nat) (run 2 3 (run 16 6 [])) ⟨λk=>[(4,AV.int k),(3,bE ((q.au.take k).foldl kT []))],λk=>[],λk=>k<=q.au.length⟩ (λk=>q.au.length-k) 0 U ?aI ?bF;case aI=>exact Nat.zero_le _
 rintro k I a w ao U;have hk:k<=q.au.length:=ao;refine cF λI a w U=>?_;refine cz (λae=>?_) λae=>?_
 .refine mz λI a w U=>?_;refine U.o (.cl (Mz _ _ (pY (acc:=[]) rfl (yI hg k)).1 (sG (hg _ (bh ae))))) λU=>?_;refine aX λI a w U=>?_;refine U.again (k+1) ?hO ?hP dR ?hZ (by repeat(first|exact Env.le_rfl|refine Env.iy rfl ?_));case hO=>omega
  case hP=>exact ae
  case hZ=>exact(Env.dA rfl dR (Env.dA rfl (by exact congrArg bE (by rw[yR ae];rfl)) Env.le_nil))
 refine zt ?_;refine c8 ?_;exact congrArg bE (by rw[List.take_of_length_le om];rfl)
def agK (q:Call) (n:Value) (t:Int) (hg:∀y∈q.au,dL y=true) (hl:q.au.length<=1048576) (hn:q.aL.length<=1048576):
 jV prog 356 [q.A0 n,AV.int t] [Own.row n 125 3 (q.aL.map aw.cells)] [] (kV {q with aL:=q.aL++ky q} t).av:=by
 refine dp.intro 54 func356 rfl ntmps356 rfl aO (λW I a U=>?_);have iv:bT (fT q)=true:=(pY (l:=q.au) (acc:=[]) rfl hg).1;refine sr<|U.box rfl .tt λb2 I a w U=>U.alloc rfl eJ im λb4 I a w U=>?_;refine bD λI a w U=>?_;refine U.o (.c1 (agJ q n hg hl)) λU=>?_;refine aF λI a w U=>?_;refine St.lo (σ:=Nat×Value) (run 2 6 (run 37 10 [])) ⟨λ⟨k,v⟩=>[(6,AV.int k)],λ⟨k,v⟩=>[Own.row v 125 3 ((oO q k).map aw.cells),Own.box b2 45 [AV.int q.aj,AV.int q.num,AV.int q.kind,jt q.keys,AV.int q.val,bE q.ctx,AV.int q.bH,AV.int q.end_,AV.bool q.over,AV.int q.ar.time,AV.int q.ar.site,sd q.au,AV.val v],Own.box b4 45 [AV.val (.int .i64 0),AV.val (.int .i64 0),AV.val (.int .i64 0),AV.rows 1 [],AV.val (.int .i64 0),AV.rows 3 [],AV.val (.int .i64 0),AV.val (.int .i64 0),AV.val (.bool false),AV.val (.int .i64 0),AV.val (.int .i64 0),AV.rows 9 [],AV.rows 3 []]],λ⟨k,v⟩=>k<=q.au.length⟩ (λ⟨k,v⟩=>q.au.length-k) (0,n) U ?aI ?bF;case aI=>exact Nat.zero_le _
 rintro⟨k,v⟩ I a w ao U;have hk:k<=q.au.length:=ao;dsimp only at U;refine cF λI a w U=>?_;refine cz (λae=>?_) λae=>?_
 .refine g9 λI a w U=>?_;refine U.o (.cl (acC _ _ iv)) λU=>?_;refine U.alloc rfl mQ kv λb7 I a w U=>?_;refine aB λI a w U=>?_;obtain⟨I,U⟩:=U.fb 3 7;refine U.dk ?_;refine ny ?_;refine .o (.c2 (Ar ..))<|.nil ?_;intro I a w U;refine bm ?_;refine U.cd (λah=>?_) λah=>?_
  .refine U.dt 11 ?_;simp only[TD];refine vh ?_;refine .o (.bd gX (.k (.t aZ.nil))) ?_;refine .o (.li [aw.cells ⟨(ab q.au k).key,bI (fT q) (ab q.au k).key⟩] jk (.u .nil)) ?_;refine .nil ?_;intro I a w U;refine U.append 0 rfl dX cW rfl .tt .r rfl (by have:=Sh q k hk;simp;omega) λKS a w U=>?_;refine U.o .fv λU=>?_;try have arv:=U.fI 0 rfl
   refine aB λI a w U=>?_;rw[cJ,acK ae ah] at U;refine aR λI a w U=>?_;have U:=U.drop 3;exact U.ag (k+1,KS) (ae)
  refine aR λI a w U=>?_;have U:=U.drop 3;rw[acL ae (by rw[ah];simp)] at U;exact U.ag (k+1,v) (ae)
 refine wp_exit<|cB<|cB<|fo<|bm<|wp_seq<|wp_seq ?_;rw[acM hk om] at U;refine aG λI a w U=>?_;refine U.o (tv 0 dX .tt rfl) λU=>?_;refine aB λI a w U=>?_;refine cz (λaq=>?_) λaq=>?_
 .refine aR λI a w U=>?_;obtain⟨I,U⟩:=U.fu 0 12 1;refine aF λI a w U=>?_;refine U.dx () [] rfl (.cons (.sx 2) .nil) trivial rfl ?_;exact(by unfold kV;rw[if_pos (by apply List.length_eq_zero_iff.1;rw[List.length_map] at aq;exact Int.ofNat_eq_zero.1 aq)];rfl)
 refine wp_skip<|bm<|wp_seq ?_;obtain⟨I,U⟩:=U.fu 0 12 1;refine aF λI a w U=>?_;refine U.dx () [] rfl (.cons (.sx 2) .nil) trivial rfl ?_;exact(by unfold kV;rw[if_neg (λe=>aq (by rw[show q.aL++ky q=[] from e];rfl))];rfl)
def MB {w:ai} {e:Ev} (h:(eF e.aj&&decide (cq w.calls e.aj<0))=false):kb w e=(w,false):=by unfold kb;rw[h];rfl
def DN {w:ai} {e:Ev} (h:(eF e.aj&&decide (cq w.calls e.aj<0))=true):kb w e=({w with calls:=w.calls++[ey w e]},jr (w.calls++[ey w e]) w.time):=by unfold kb;rw[h];rfl
def agL {w:ai} {e:Ev} (h:e.kind=1):g7 w e=((kb w e).1,(kb w e).2):=by unfold g7;rw[if_pos h]
def agM {w:ai} {e:Ev} (h:¬e.kind=1) (hn:cq w.calls e.aj<0):g7 w e=(w,false):=by unfold g7;rw[if_neg h];dsimp only;rw[if_pos hn]
def agN {w:ai} {e:Ev} (h:¬e.kind=1) (hn:0<=cq w.calls e.aj) (h3:e.kind=3):g7 w e=({w with calls:=w.calls.set (cq w.calls e.aj).toNat {ab w.calls (cq w.calls e.aj).toNat with over:=true}},true):=by unfold g7;rw[if_neg h];dsimp only;rw[if_neg om,if_pos h3]
def agO {w:ai} {e:Ev} (h:¬e.kind=1) (hn:0<=cq w.calls e.aj) (h3:¬e.kind=3):g7 w e=({w with al:=eN w.al (gD (ab w.calls (cq w.calls e.aj).toNat))},true):=by unfold g7;rw[if_neg h];dsimp only;rw[if_neg om,if_neg h3]
def agP {s:Server} {slot:Int} (hg:bJ s) (hm:(fF s slot).2.2=true):∀y∈[(fF s slot).2.1],ly y:=by
 have h:=GJ hm;have hp:=yz h;intro y hy;obtain rfl:=List.mem_singleton.1 hy;rw[LY h];exact yT (GI (A4 hg h) hp.2.1 hp.2.2.1)
def agQ {a b:List aw} (ha:bT a=true) (hb:bT b=true):wZ a (iX a b):=λkey=>by rw[DJ ha hb];exact Mj _ _
def Vx {a b:List aw} (ha:bT a=true) (hb:bT b=true):wZ b (iX a b):=λkey=>by rw[DJ ha hb];exact U2 _ _
def agR {w:ai} {σ:Nat} {D E:List aw} (hc:nK w σ D) (he:nK w σ E) (hD:bT D=true) (hE:bT E=true):nK w σ (iX D E):=λd hd=>by
 rcases U3 hd with hd|hd
 .obtain⟨u,h1,h2,h3⟩:=hc d hd;exact⟨u,h1,h2,GN h3 (agQ hD hE)⟩
 obtain⟨u,h1,h2,h3⟩:=he d hd;exact⟨u,h1,h2,GN h3 (Vx hD hE)⟩
def Vy:∀{ds l:List aw},gz l=true->(∀d∈ds,kO d=true)->l.length+ds.length<=80->gz (ds.foldl eA l)=true
 |[],_,hl,_,_=>hl
 |d::r,l,hl,hd,h=>by
  simp only[List.length_cons] at h;exact Vy (ds:=r) (Mv hl (hd d bn) om) (λx hx=>hd x (by simp[hx])) (by have:=LQ l d;omega)
end Go.Proofs.YtldbakcpcfdlaaaGreat
