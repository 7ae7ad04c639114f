/- Part 45: contracts of functions, plain facts. -/
import Derived.Test.YtldbakcpcfdlaaaGreatP40
import Derived.Test.YtldbakcpcfdlaaaGreatP42
set_option linter.all false
set_option maxRecDepth 100000
set_option maxHeartbeats 4000000
namespace Go.Proofs.YtldbakcpcfdlaaaGreat
open Go Go.RowKit
attribute [local irreducible] wpList Code.wp Ok
def Ij (w:ai):kJ w (eD w):=by
 rw[HG];exact(amA w).trans ((Oo 1000).trans ((HY _).trans ((qf _ 0).trans (qf _ 1))))
def OX {w:ai} (h:Inv w) (hm:iH w) (ht:w.time<=40000):ie (bl 25 w) 20/\kD (bl 25 w)/\mg w (bl 25 w) 21250/\kJ w (bl 25 w):=by
 have g1:=BG h hm;obtain⟨s1,r1,f1⟩:=XX h hm;have g2:=BG g1.inv g1.more;obtain⟨q2,e2⟩:=XY s1 r1 f1;obtain⟨q3,e3,g3,_,k3⟩:=Oq 23 q2 e2 (by have:=g1.time;have:=g2.time;omega);have e:bl 25 w=bl 23 (eD (eD w)):=by
  show(if w.time<79999 then bl 24 (eD w) else w)=_;rw[if_pos om];show(if(eD w).time<79999 then bl 23 (eD (eD w)) else eD w)=_;rw[if_pos (by have:=g1.time;omega)]
 rw[e];exact⟨q3.less om,e3,((g1.trans g2).trans g3).mono om,(Ij w).trans ((Ij _).trans (.of k3))⟩
def EB (l:List Ev):ie (bl 25 (cx l)) 20/\kD (bl 25 (cx l))/\mg (cx l) (bl 25 (cx l)) 21250/\kJ (cx l) (bl 25 (cx l))/\(bl 25 (cx l)).time<=23250:=by
 have ht:=NN l;obtain⟨a,b,c,d⟩:=OX (D8 l).1 (Nv l) om;exact⟨a,b,c,d,by have:=c.time;omega⟩
def anX (l:List Ev):mI (bl 25 (cx l))=true/\kD (bl 25 (cx l))/\zh (bl 25 (cx l))=true/\qZ (bl 25 (cx l))=true:=by
 obtain⟨a,b,_,_,e⟩:=EB l;have ht:(bl 25 (cx l)).time<=99999:=by omega
 exact⟨NC a ht,b,Xx a.still.calm.inv ht,Xy a.still.calm.inv ht⟩
def anY {w:ai} (h:Inv w) (hm:iH w) (ht:w.time<=40000):mI (bl 25 w)=true/\kD (bl 25 w)/\zh (bl 25 w)=true/\qZ (bl 25 w)=true:=by
 obtain⟨a,b,g,_⟩:=OX h hm ht;have Am:(bl 25 w).time<=99999:=by have:=g.time;omega
 exact⟨NC a Am,b,Xx a.still.calm.inv Am,Xy a.still.calm.inv Am⟩
def EC (l:List Ev):Inv (bl 25 (cx l))/\cK (bl 25 (cx l))=true/\(bl 25 (cx l)).time<=23250:=by
 obtain⟨a,_,_,_,e⟩:=EB l;exact⟨a.still.calm.inv,fD.2 ⟨a.still.calm.inv.aN,by omega⟩,e⟩
def anZ (l:List Ev):mI (bl 25 (ld (cx l) 4))=true/\kD (bl 25 (ld (cx l) 4))/\zh (bl 25 (ld (cx l) 4))=true/\qZ (bl 25 (ld (cx l) 4))=true:=by
 have ht:=NN l;have U:=Ot (D8 l).1 (Nv l) om (k:=4) om;exact anY U.inv U.more (by have:=U.time;omega)
def zP {w:ai} (hq:ie w 0) (he:kD w) (ht:w.time<=60000) (hl:w.calls.length<=19) {e:Ev} (h1:e.kind=1) (hc:eF e.aj=true) (hk:fU (ey {w with time:=w.time+1} e)=true) (hv:0<=e.val/\e.val<=9999):
 (bW w e).2=true/\bl 2 (bW w e).1=eD (eD (bW w e).1)/\ie (bl 2 (bW w e).1) 0/\kD (bl 2 (bW w e).1)/\mg w (bl 2 (bW w e).1) 1701/\kJ (bW w e).1 (bl 2 (bW w e).1)/\(bW w e).1.calls=w.calls++[ey {w with time:=w.time+1} e]:=by
 have mj:=hq.still.calm;obtain⟨b1,b2⟩:=Ou mj.inv.aN om he hl h1 hc hk hv;have g0:=we mj.inv mj.more e;rw[<-b2] at g0;have g1:=BG g0.inv g0.more;have g2:=BG g1.inv g1.more;have e2:bl 2 (bW w e).1=eD (eD (bW w e).1):=by
  have t1:(bW w e).1.time<79999:=by have:=g0.time;omega
  have t2:(eD (bW w e).1).time<79999:=by have:=g0.time;have:=g1.time;omega
  show(if(bW w e).1.time<79999 then bl 1 (eD (bW w e).1) else _)=_;rw[if_pos t1];show(if(eD (bW w e).1).time<79999 then bl 0 (eD (eD (bW w e).1)) else _)=_;rw[if_pos t2];rfl
 obtain⟨s1,s2,s3⟩:=XX g0.inv g0.more;obtain⟨q1,q2⟩:=XY s1 s2 s3;rw[e2];exact⟨by rw[b1],rfl,q1,q2,((g0.trans g1).trans g2).mono om,(Ij _).trans (Ij _),by rw[b1]⟩
def OY {w:ai} (hq:ie w 0) (he:kD w) (ht:w.time<=60000) (hl:w.calls.length<=19) {e:Ev} (h1:e.kind=1) (hc:eF e.aj=true) (hr:e.call≠1) (hk:fU (ey {w with time:=w.time+1} e)=true) (hv:0<=e.val/\e.val<=9999)
 {V:aA->Prop} (vN:∀σ v,be w σ v->V v) (El:∀v,V v->be w e.aj.toNat v):
 jR V w.calls.length (bl 2 (bW w e).1)/\(bl 2 (bW w e).1).calls.length=w.calls.length+1/\j2 (ey {w with time:=w.time+1} e) (ab (bl 2 (bW w e).1).calls w.calls.length)/\0<(ab (bl 2 (bW w e).1).calls w.calls.length).end_/\
 (ab (bl 2 (bW w e).1).calls w.calls.length).au.length=(ab (bl 2 (bW w e).1).calls w.calls.length).keys.length:=by
 have mj:=hq.still.calm;obtain⟨b1,b2⟩:=Ou mj.inv.aN om he hl h1 hc hk hv;obtain⟨_,_,c3,c4,c5,c6,c7⟩:=zP hq he ht hl h1 hc hk hv;have g0:=we mj.inv mj.more e;rw[<-b2] at g0;have en:ab (bW w e).1.calls w.calls.length=ey {w with time:=w.time+1} e:=by rw[c7,AM]
 have t0:jR V w.calls.length (bW w e).1:={
  calm:=mj.frame g0.inv g0.more (by rw[b1])
  rest:=λi hi k hk=>by rw[b1];exact hq.rest i hi k hk
  len:=by rw[c7];simp
  sub:=by rw[b1];exact vN
  sup:=by rw[en,b1];exact El
  kinds:=λm hm=>by rw[b1] at hm;have:=hq.still.al;dsimp only at hm;rw[this] at hm;simp at hm
  ask:=λm hm=>by rw[b1] at hm;have:=hq.still.al;dsimp only at hm;rw[this] at hm;simp at hm
  BF:=λm hm=>by rw[b1] at hm;have:=hq.still.al;dsimp only at hm;rw[this] at hm;simp at hm
  read:=by rw[en];exact hr
  over:=by rw[en];rfl
  au:=by rw[en];exactλa ha=>by simp[ey,oM] at ha
  aL:=by rw[en];rfl
  others:=λk hk aW=>by
   rw[c7] at hk⊢;rw[List.length_append,List.length_singleton] at hk;rw[sL om];exact he k om}
 have t2:=t0.bl 2 (by rw[b1];exact hq.still.al);have hlen:(bl 2 (bW w e).1).calls.length=w.calls.length+1:=by rw[c6.len,c7];simp
 have lT:=c4 w.calls.length om;have CC:=t2.over;have aW:(ab (bl 2 (bW w e).1).calls w.calls.length).end_≠0:=λe0=>by
  unfold bV at lT;rw[e0,CC] at lT;simp at lT
 have hg:=(c5.inv.aN.call (i:=w.calls.length) om);have lY:=hg.ended aW;refine⟨t2,hlen,?_,by have:=lY.2.1;have:=hg.bH;omega,lY.2.2.2.2 t2.read⟩;have:=c6.same w.calls.length (by rw[c7];simp);rw[en] at this;exact this
def an0 (l:List Ev) (hl:(cx l).calls.length<=17) {e:Ev} (h1:e.kind=1) (hc:e.aj=1) (h2:e.call=2) (ha:e.a=0) (hb:e.b=2) (sZ:e.c=4) (hv:0<=e.val/\e.val<=9999) {w z:ai} (hw:bl 25 (cx l)=w) (hz:bl 2 (bW w e).1=z) {n:Nat} (hn:w.calls.length=n):
 (bW w e).2=true/\z.calls.length=n+1/\0<(ab z.calls n).end_/\(ab z.calls n).au.length=3/\(∀i,i<3->dY (cg z 0) (ab (ab z.calls n).keys i)=if(ab (ab z.calls n).au i).yes=true then some (ab (ab z.calls n).au i).aY else none)/\(ab z.calls n).keys=[0,2,4]:=by
 obtain⟨p1,p2,p3,p4,p5⟩:=EB l;have p6:=p4.len;rw[hw] at p1 p2 p5 p6;have sQ:eZ e=[0,2,4]:=by unfold eZ;rw[h2,ha,hb,sZ];rfl
 have hk:fU (ey {w with time:=w.time+1} e)=true:=by
  show(jZ (eZ e)&&((e.call==1&&(((eZ e).length:Int)==1))||(e.call==2&&aJ (eZ e).length 1 3)))=true;rw[sQ,h2];decide
 have q0:=p1.less (s:=0) aP;have p8:eF e.aj=true:=by rw[hc];decide
 obtain⟨b1,_,b3,b4,b5,b6,b7⟩:=zP q0 p2 om om h1 p8 hk hv;obtain⟨r1,r2,r3,r4,r5⟩:=OY (V:=be w 0) q0 p2 om om h1 p8 om hk hv (λσ v hv=>Em p1 hv.lt aP hv) (λv hv=>Em p1 aP (by rw[hc];decide) hv);rw[hz,hn] at r1 r3 r4 r5;rw[hz] at r2 b3 b5;have kk:(ab z.calls n).keys=[0,2,4]:=r3.2.2.2.1.trans sQ;obtain⟨a,b,c,g1,g2,g3,g4⟩:=ale (b5.inv.aN.call (i:=n) om) kk r5 aP aP;have hV:∀v,be w 0 v↔be z ((0:Nat)) v:=λv=>⟨λh=>b5.eC 0 v h,λh=>r1.sub 0 v h⟩;have BJ:=r1.au;rw[g1] at BJ;have bs:∀x∈[a,b,c],dY (cg z 0) x.key=if x.yes=true then some x.aY else none:=λx hx=>alg b5.inv (by have:=b5.time;omega) (σ:=0) aP hV (BJ x hx)
 refine⟨b1,by rw[r2,hn],r4,by rw[g1];rfl,λi hi=>?_,kk⟩;rw[kk,g1];rcases(by omega:i=0\/i=1\/i=2) with rfl|rfl|rfl
 .have:=bs a bn;rw[g2] at this;exact this
 .have:=bs b bn;rw[g3] at this;exact this
 have:=bs c bn;rw[g4] at this;exact this
def then_ok (l:List Ev) (e:Ev):cK (j4 l e)=true:=by
 unfold j4;split
 .exact D9 l
 exact X4 (EC l).2.1 e
def an1 {l:List Ev} (hl:(cx l).calls.length<=17):wi l lQ=true/\0<(nT l lQ).end_/\(nT l lQ).au.length=3/\(∀i,i<3->dY (cg (j4 l lQ) 0) (ab (nT l lQ).keys i)=if(ab (nT l lQ).au i).yes=true then some (ab (nT l lQ).au i).aY else none)/\(nT l lQ).keys=[0,2,4]:=by
 obtain⟨e1,e2,e3⟩:=Ex (e:=lQ) hl;obtain⟨a,b,c,d,f,k⟩:=an0 l hl (e:=oP lQ) rfl rfl rfl rfl rfl rfl aP rfl (z:=lC (bl 25 (cx l)) lQ) rfl rfl;obtain⟨g,h⟩:=Ew a b;rw[e1,e2,e3,h];exact⟨g,c,d,f,k⟩
def an2 {l:List Ev} (h:(cx l).calls.length<=17) (e:Ev):ct (cg (j4 l e) 0)=true:=by
 rw[(Ex h).1];exact ak7 (amE (EC l).1 (EC l).2.1 e) (σ:=0) aP
end Go.Proofs.YtldbakcpcfdlaaaGreat
set_option linter.all false
set_option maxRecDepth 100000
set_option maxHeartbeats 4000000
namespace Go.Proofs.YtldbakcpcfdlaaaGreat
open Go Go.RowKit Tryz
attribute [local irreducible] wpList Code.wp Ok
def BH (x:ai) (e:Ev) (hg:bX x) (ht:x.time<=99999):
 Fn prog 79 [x.av,e.av] (AV.dG [(gv x e).1.av,AV.bool (gv x e).2]):=by
 refine Fn.go 22 func79 ntmps79 (λW I a U=>?_);have Bq:=hg.time;refine aG λI a w U=>?_;refine U.alloc rfl dP dW λb4 I a w U=>?_;refine aX λI a w U=>?_;refine cz (λae=>?_) λae=>?_
 .refine aR λI a w U=>?_;refine U.ret rfl (.cons (.sx 0) (.cons (.t rfl) aV.nil)) ?_;exact(by unfold gv;rw[if_neg om];rfl)
 refine bD λI a w U=>?_;refine U.cY [] (Vw x hg.small) (ax .tt aH) rfl aP rfl λ⟨s,r,q,z⟩ I a w atw U=>?_;unfold ai.TU at U;dsimp only at U;have U:=U.nf;refine U.alloc rfl dP dW λb6 I a w U=>?_;refine bY λI a w U=>?_;refine U.s1 5 λU=>?_;refine bD λI a w U=>?_;refine U.cY [5,1,2,3,4] (alq b6 {x with time:=x.time+1} e s r q z hg.later (by show x.time+1<=_;omega)) (ax .tt (ax .tt aH)) rfl aP rfl λu I a w Ie U=>?_;refine aB λI a w U=>?_;refine cz (λah=>?_) λah=>?_
 .rw[ah] at U;have U:=U.nf;refine aR λI a w U=>?_;refine U.ret rfl (.cons (.sx 0) (.cons (.t rfl) aV.nil)) ?_;exact(by unfold gv;rw[Wk,if_neg (by rw[ah];simp)];rfl)
 rw[ah] at U;unfold ai.full at U;have U:=U.nf;obtain⟨I,U⟩:=U.fu 1 1 5;obtain⟨I,U⟩:=U.fu 2 2 5;obtain⟨I,U⟩:=U.fu 3 3 5;obtain⟨I,U⟩:=U.fu 4 4 5;have U:=U.nf;refine aR λI a w U=>?_;refine U.ret rfl (.cons (.sx 0) (.cons (.t rfl) aV.nil)) ?_;exact(by unfold gv;rw[Wk,if_pos ⟨by omega,ah⟩];rfl)
def anR (x:ai) (e:Ev) (hf:x.Fit) (hl:x.calls.length<=1048576):
 Fn prog 36 [x.av,e.av] (AV.dG [(bW x e).1.av,AV.bool (bW x e).2]):=by
 refine Fn.go 21 func36 ntmps36 (λW I a U=>?_);refine aG λI a w U=>?_;refine U.alloc rfl dP dW λb4 I a w U=>?_;refine aG λI a w U=>?_;refine U.o (.c1 (zx x hf hl)) λU=>?_;refine aB λI a w U=>?_;refine U.cd (λae=>?_) λae=>?_
 .replace ae:=nt ae;refine zt ?_;refine U.o (.bd dW aZ.nil) λU=>?_;refine aF λI a w U=>?_;refine U.ret rfl (.cons (.sx 0) (.cons (.t rfl) aV.nil)) ?_;exact(by unfold bW;rw[ae];rfl)
 replace ae:=nf ae;have hg:=fD.1 ae;refine aG λI a w U=>?_;refine U.o (.c2 (BH x e hg.1 hg.2)) λU=>?_;refine bk λI a w U=>?_;refine U.alloc rfl dP dW λb6 I a w U=>?_;refine U.sb 1 λU=>?_;obtain⟨I,U⟩:=U.fb 1 6;refine aG λI a w U=>?_;refine U.o (.c1 (MA (gv x e).1 (fD.1 (Bx ae e)).1.small)) λU=>?_;refine aR λI a w U=>?_;refine U.ret rfl (.cons (.sx 0) (.cons (.t rfl) aV.nil)) ?_;exact(by unfold bW;rw[ae];rfl)
def BI (l:List Ev):
 Fn prog 25 [AV.rows 11 (l.map Ev.cells)] ((cx l).av):=by
 refine Fn.go 26 func25 ntmps25 (λW I a U=>?_);have hle:=U.eE (t:=0) rfl;refine sr<|U.alloc rfl dP dW λb2 I a w U=>?_;refine zt ?_;refine U.o (.cl (afx ..)) λU=>?_;refine U.alloc rfl dP dW λb3 I a w U=>?_;refine aX λI a w U=>?_;refine cz (λae=>?_) λae=>?_
 .refine aF λI a w U=>?_;refine U.ret rfl (.cons (.sx 0) aV.nil) ?_;exact(by unfold cx;rw[if_pos om];rfl)
 refine aR λI a w U=>?_;refine St.lo (σ:=Nat) (5::(run 11 13 [])) ⟨λk=>[(13,AV.int k)],λk=>[Own.box b2 28 [AV.val (.int .i64 0),AV.rows 7 [],AV.rows 15 [],AV.rows 13 [],AV.rows 1 []],Own.box b3 28 (wK l k).cells],λk=>k<=l.length⟩ (λk=>l.length-k) 0 U ?aI ?bF;case aI=>exact Nat.zero_le _
 rintro k I a w ao U;have hk:k<=l.length:=ao;have hg:=fD.1 (Nq l k);dsimp only at U;refine aB λI a w U=>?_;refine cz (λah=>?_) λah=>?_
 .refine aG λI a w U=>?_;refine U.alloc rfl Al gO λb5 I a w U=>?_;refine aB λI a w U=>?_;obtain⟨I,U⟩:=U.fb 2 5;refine aG λI a w U=>?_;refine U.o (.c2 (BH (wK l k) (ab l k) hg.1 hg.2)) λU=>?_;refine iM λI a w U=>?_;have U:=U.drop 2;rw[aj0 ah] at U;exact U.ag (k+1) (ah)
 refine zt ?_;refine U.o (.ls 1) λU=>U.o (.c1 (MA (wK l k) hg.1.small)) λU=>?_;refine aB λI a w U=>?_;refine U.ret rfl (.cons (.sx 0) aV.nil) ?_;exact(by rw[VZ om om];rfl)
def OT (x:ai) (hg:bX x) (ht:x.time<=98000):
 Fn prog 134 [x.av] ((dm 1000 x).av):=by
 refine Fn.go 21 func134 ntmps134 (λW I a U=>?_);refine sr<|U.box rfl .tt λb1 I a w U=>U.alloc rfl dP dW λb2 I a w U=>?_;refine aB λI a w U=>?_;refine St.lo (σ:=Nat×ai) (run 17 3 []) ⟨λ⟨k,y⟩=>[(3,AV.int k)],λ⟨k,y⟩=>[Own.box b1 28 y.cells,Own.box b2 28 [AV.val (.int .i64 0),AV.rows 7 [],AV.rows 15 [],AV.rows 13 [],AV.rows 1 []]],λ⟨k,y⟩=>k<=1000/\zC x y k⟩ (λ⟨k,y⟩=>1000-k) (0,x) U ?aI ?bF;case aI=>exact⟨by omega,hg,by omega,rfl⟩
 rintro⟨k,y⟩ I a w ao U;obtain⟨hk,hp⟩:=ao;have zO:=hp.time;have kK:=hp.aN.al;dsimp only at U;refine pJ λI a w U=>?_;refine tN (λae=>?_) λae=>?_
 .obtain⟨h1,h2⟩:=ae;refine bD λI a w U=>?_;refine U.o (.bd gO (.k aZ.nil)) λU=>?_;refine U.o (bO (BH y (ev 4 0 0) hp.aN om) (ax (.t rfl) (ax (.t rfl) aH))) λU=>?_;refine jW λI a w U=>?_;rw[Eb om] at U;exact U.ag (k+1,bR y (ev 4 0 0)) (⟨by show k+1<=1000;omega,hp.next ht om om⟩)
 simp only[B,Bool.and_eq_false_iff] at ae;refine wp_exit<|cB<|cB<|fo<|bm<|wp_seq ?_;have hy:=(hp.stop om).symm;subst hy;refine aF λI a w U=>?_;refine U.ret rfl (.cons (.sx 1) aV.nil) ?_;rfl
def anS (x:ai) (hg:bX x) (ht:x.time<=80000):
 Fn prog 63 [x.av] ((eD x).av):=by
 refine Fn.go 46 func63 ntmps63 (λW I a U=>?_);refine sr<|U.box rfl .tt λb1 I a w U=>U.alloc rfl dP dW λb2 I a w U=>?_;refine aB λI a w U=>?_;refine St.lo (σ:=Nat×ai) (3::(run 11 6 [])) ⟨λ⟨k,y⟩=>[(6,AV.int k)],λ⟨k,y⟩=>[Own.box b1 28 y.cells,Own.box b2 28 [AV.val (.int .i64 0),AV.rows 7 [],AV.rows 15 [],AV.rows 13 [],AV.rows 1 []]],λ⟨k,y⟩=>k<=4/\tk (λ(w:ai) (i:Nat)=>bR w (ev 7 i 0)) 1 x y k⟩ (λ⟨k,y⟩=>4-k) (0,x) U ?aI ?bF;case aI=>exact⟨by omega,.zero (by assumption)⟩
 rintro⟨k,y⟩ I a w ao U;obtain⟨hk,hp⟩:=ao;have zO:=hp.time;have tp:=hp.aN;dsimp only at U;refine aB λI a w U=>?_;refine cz (λae=>?_) λae=>?_
 .refine bx λI a w U=>?_;refine U.o (.bd gO (.k (.k aZ.nil))) λU=>?_;refine U.o (bO (BH y (ev 7 k 0) hp.aN om) (ax (.t rfl) (ax (.t rfl) aH))) λU=>?_;refine aX λI a w U=>?_;rw[Eb om] at U;refine aF λI a w U=>?_;exact U.ag (k+1,bR y (ev 7 k 0)) (⟨by show k+1<=4;omega,hp.next (tj tp om _) (nc y _)⟩)
 refine wp_exit<|cB<|cB<|fo<|bm<|wp_seq ?_;obtain rfl:k=4:=by omega
 have hy:iJ x=y:=hp.eq.symm;subst hy;have mf:=hp.aN;have xL:=hp.time;refine bD λI a w U=>?_;refine U.o (bO (OT (iJ x) mf om) (ax (.t rfl) aH)) λU=>?_;refine aB λI a w U=>?_;have qF:=v8 mf om;have anT:=qF.1;have anU:=qF.2;refine aB λI a w U=>?_;refine St.lo (σ:=Nat×ai) (4::(run 13 19 [])) ⟨λ⟨k,y⟩=>[(19,AV.int k)],λ⟨k,y⟩=>[Own.box b1 28 y.cells,Own.box b2 28 [AV.val (.int .i64 0),AV.rows 7 [],AV.rows 15 [],AV.rows 13 [],AV.rows 1 []]],λ⟨k,y⟩=>k<=4/\tk eP 1001 (dm 1000 (iJ x)) y k⟩ (λ⟨k,y⟩=>4-k) (0,(dm 1000 (iJ x))) U ?eo ?jK;case eo=>exact⟨by omega,.zero (by assumption)⟩
 rintro⟨k,y⟩ I a w ao U;obtain⟨hk,hp⟩:=ao;have zO:=hp.time;have tp:=hp.aN;dsimp only at U;refine aB λI a w U=>?_;refine cz (λah=>?_) λah=>?_
 .refine bx λI a w U=>?_;refine U.o (.bd gO (.k (.k aZ.nil))) λU=>?_;refine U.o (bO (BH y (ev 8 k 0) hp.aN om) (ax (.t rfl) (ax (.t rfl) aH))) λU=>?_;refine aX λI a w U=>?_;rw[Eb om] at U;have hl:=tj tp om (ev 8 k 0);have bz:=nc y (ev 8 k 0);have hd:=v8 hl om;refine U.o (.ls 0) λU=>?_;refine U.o (bO (OT (bR y (ev 8 k 0)) hl om) (ax (.t rfl) aH)) λU=>?_;refine aR λI a w U=>?_;rw[HA] at U;exact U.ag (k+1,eP y k) (⟨by show k+1<=4;omega,hp.next hd.1 (by have:=hd.2;rw[HA] at this;omega)⟩)
 refine wp_exit<|cB<|cB<|fo<|bm<|wp_seq<|wp_seq ?_;obtain rfl:k=4:=by omega
 have hy:((List.range 4).foldl eP (dm 1000 (iJ x)))=y:=hp.eq.symm;subst hy;have X8:=hp.aN;have ht3:=hp.time;refine aB λI a w U=>?_;refine St.lo (σ:=Nat×ai) (5::(run 13 32 [])) ⟨λ⟨k,y⟩=>[(32,AV.int k)],λ⟨k,y⟩=>[Own.box b1 28 y.cells,Own.box b2 28 [AV.val (.int .i64 0),AV.rows 7 [],AV.rows 15 [],AV.rows 13 [],AV.rows 1 []]],λ⟨k,y⟩=>k<=2/\tk fm 1001 ((List.range 4).foldl eP (dm 1000 (iJ x))) y k⟩ (λ⟨k,y⟩=>2-k) (0,((List.range 4).foldl eP (dm 1000 (iJ x)))) U ?iD ?od;case iD=>exact⟨by omega,.zero (by assumption)⟩
 rintro⟨k,y⟩ I a w ao U;obtain⟨hk,hp⟩:=ao;have zO:=hp.time;have tp:=hp.aN;dsimp only at U;refine aB λI a w U=>?_;refine cz (λaq=>?_) λaq=>?_
 .refine bx λI a w U=>?_;refine U.o (.bd gO (.k (.k aZ.nil))) λU=>?_;refine U.o (bO (BH y (ev 2 0 k) hp.aN om) (ax (.t rfl) (ax (.t rfl) aH))) λU=>?_;refine aX λI a w U=>?_;rw[Eb om] at U;have hl:=tj tp om (ev 2 0 k);have bz:=nc y (ev 2 0 k);have hd:=v8 hl om;refine U.o (.ls 0) λU=>?_;refine U.o (bO (OT (bR y (ev 2 0 k)) hl om) (ax (.t rfl) aH)) λU=>?_;refine aR λI a w U=>?_;rw[HB] at U;exact U.ag (k+1,fm y k) (⟨by show k+1<=2;omega,hp.next hd.1 (by have:=hd.2;rw[HB] at this;omega)⟩)
 refine wp_exit<|cB<|cB<|fo<|bm<|wp_seq ?_;obtain rfl:k=2:=by omega
 have hy:eD x=y:=hp.eq.symm;subst hy;refine aF λI a w U=>?_;refine U.ret rfl (.cons (.sx 1) aV.nil) ?_;rfl
def X9 (x:ai) (r:Int) (ao:cK x=true):
 Fn prog 18 [x.av,AV.int r] ((bl (min r 40).toNat x).av):=by
 refine Fn.go 25 func18 ntmps18 (λW I a U=>?_);have vg:=fD.1 ao;have hg:=vg.1;have nP:=hg.small.2.2.1.1;refine sr<|U.box rfl .tt λb2 I a w U=>U.alloc rfl dP dW λb4 I a w U=>?_;refine bD λI a w U=>?_;refine U.o (.c1 (zx x hg.Fit nP)) λU=>?_;refine aB λI a w U=>?_;refine U.cd (λae=>?_) λae=>?_
 .exfalso;rw[ao] at ae;cases ae;skip
 refine aB λI a w U=>?_;refine St.lo (σ:=Nat×ai) (5::(run 13 10 [])) ⟨λ⟨k,y⟩=>[(5,AV.int k)],λ⟨k,y⟩=>[Own.box b2 28 y.cells,Own.box b4 28 [AV.val (.int .i64 0),AV.rows 7 [],AV.rows 15 [],AV.rows 13 [],AV.rows 1 []]],λ⟨k,y⟩=>k<=40/\zD (min r 40).toNat x y k⟩ (λ⟨k,y⟩=>40-k) (0,x) U ?aI ?bF;case aI=>exact⟨by omega,hg,vg.2,rfl⟩
 rintro⟨k,y⟩ I a w ao U;obtain⟨hk,hp⟩:=ao;dsimp only at U;refine aG λI a w U=>?_;refine U.o (ah4 .tt .c) λU=>?_;refine iM λI a w U=>?_;refine tN (λah=>?_) λah=>?_
 .obtain⟨h1,h2⟩:=ah;refine bD λI a w U=>?_;refine U.o (bO (anS y hp.aN om) (ax (.t rfl) aH)) λU=>?_;refine aX λI a w U=>?_;exact U.ag (k+1,eD y) (⟨by show k+1<=40;omega,hp.next om om⟩)
 simp only[B,Bool.and_eq_false_iff] at ah;refine wp_exit<|cB<|cB<|fo<|bm<|wp_seq ?_;have hy:=hp.stop om;refine bD λI a w U=>?_;refine U.o (.c1 (MA y hp.aN.small)) λU=>?_;refine aB λI a w U=>?_;refine U.ret rfl (.cons (.sx 1) aV.nil) ?_;rw[<-hy];rfl
def Ii (x:ai) (ao:cK x=true):
 Fn prog 28 [x.av] ((bl 25 x).av):=by
 refine Fn.go 5 func28 ntmps28 (λW I a U=>?_);refine bD λI a w U=>?_;refine U.alloc rfl dP dW λb2 I a w U=>?_;refine bD λI a w U=>?_;refine U.o (.cl (X9 x 25 ao)) λU=>?_;refine aB λI a w U=>?_;refine U.ret rfl (.cons (.sx 0) aV.nil) ?_;rfl
def Ya (x:ai) (ao:cK x=true):Fn prog 18 [x.av,AV.int 2] (bl 2 x).av:=X9 x 2 ao
def OU (x:ai) (e:Ev) (ao:cK x=true):Fn prog 36 [x.av,e.av] (AV.dG [(bW x e).1.av,AV.bool (bW x e).2]):=anR x e (fD.1 ao).1.Fit (fD.1 ao).1.small.2.2.1.1
def OV (x:ai) (e:Ev) (ao:cK x=true):
 Fn prog 27 [x.av,e.av] (AV.dG [(lC x e).av,(mh x e).av,AV.bool (qg x e)]):=by
 refine Fn.go 37 func27 ntmps27 (λW I a U=>?_);refine bD λI a w U=>?_;refine U.box rfl .tt λb3 I a w U=>U.alloc rfl dP dW λb4 I a w U=>U.alloc rfl eJ im λb5 I a w U=>?_;refine aR λI a w U=>?_;have OW:=Ht ao (oP e);have anW:=X4 ao e;have atx:(bl 2 (bW x (oP e)).1).calls.length<=20:=(pb.1 (fD.1 anW).1.calls).1;refine aG λI a w U=>?_;refine U.o (bO (OU x (oP e) ao) (ax .tt (ax .tt aH))) λU=>?_;refine bk λI a w U=>?_;refine U.alloc rfl dP dW λb7 I a w U=>?_;refine bk λI a w U=>?_;refine U.o (bO (Ya (bW x (oP e)).1 OW) (ax .tt (ax .c aH))) λU=>?_;refine Ai λI a w U=>?_;refine cz (λae=>?_) λae=>?_
 .refine wp_seq ?_;have h1:qg x e=false:=by unfold qg lC;rcases ae with h|h;(rw[h];rfl);rw[decide_eq_true om];simp
  have h2:mh x e=oM:=by unfold mh;rw[h1];rfl
  refine bD λI a w U=>?_;refine U.o (.bd im aZ.nil) λU=>?_;refine aR λI a w U=>?_;refine U.ret rfl (.cons (.sx 1) (.cons (.sx 2) (.cons (.t rfl) aV.nil))) ?_;rw[h1,h2];rfl
 refine zt ?_;obtain⟨g1,g2⟩:=ae;have h1:qg x e=true:=by unfold qg lC;rw[g1,decide_eq_false om];rfl
 have h2:mh x e=ab (bl 2 (bW x (oP e)).1).calls (((bl 2 (bW x (oP e)).1).calls.length:Int)-1).toNat:=by unfold mh lC;rw[if_pos h1];congr 1;omega
 refine U.gG (([3],none)::([],none)::([3],none)::rp 4 [([1],some (1,[])),([2],some (2,[])),([],none)]) aO aO rfl ?_;refine .r [3] (.ls 3) ?_;refine bG ?_;refine .r [3] (.lb 3) ?_;refine eb ?_;refine bc.ji (x:=AV.any) 1 (λF W0 I0 I γ a w Q U kk=>U.sb 1 λU=>kk _ _ _ U) ?_;refine bc.ji (x:=AV.any) 2 (λF W0 I0 I γ a w Q U kk=>U.sb 2 λU=>kk _ _ _ U) ?_;refine .o (uO .c)<|.nil ?_;intro I a w U;refine zt ?_;refine U.ret rfl (.cons (.sx 1) (.cons (.sx 2) (.cons (.t rfl) aV.nil))) ?_;rw[h1,h2];rfl
end Go.Proofs.YtldbakcpcfdlaaaGreat
