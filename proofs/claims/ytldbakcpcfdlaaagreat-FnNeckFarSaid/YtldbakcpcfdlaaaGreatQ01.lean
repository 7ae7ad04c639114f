/- Part 50: contracts of functions, plain facts. -/
import Derived.Test.YtldbakcpcfdlaaaGreatQ00
set_option linter.all false
set_option maxRecDepth 100000
set_option maxHeartbeats 4000000
namespace Go.Proofs.YtldbakcpcfdlaaaGreat
open Go Go.RowKit Tryz
attribute [local irreducible] wpList Code.wp Ok
def aoa {q:Call} {t:Int} (hg:dJ q t) {k0:Int} (hk:q.keys=[k0]) (hlen:q.au.length=q.keys.length):∃a,q.au=[a]/\a.key=k0:=by
 have hh:=hg.has;rw[hk] at hlen;match e:q.au,hlen with
 |[a],_=>
  refine⟨a,rfl,?_⟩
  have:=lR.1 (hh a (by rw[e];simp))
  rw[hk] at this
  simpa using this
def aob (l:List Ev) (hl:(cx l).calls.length<=17) {e f:Ev} (h1:e.kind=1) (hc:e.aj=0) (h2:e.call=1) (ha:e.a=5) (hv:e.val=78) (f1:f.kind=1) (fc:f.aj=1) (f2:f.call=2) (fa:f.a=5) (fb:f.b=0) (fv:0<=f.val/\f.val<=9999)
 {w y x z:ai} (hw:bl 25 (cx l)=w) (hy:bl 2 (bW w e).1=y) (hx:bl 25 y=x) (hz:bl 2 (bW x f).1=z) {n:Nat} (hn:w.calls.length=n):
 (bW w e).2=true/\y.calls.length=n+1/\0<(ab y.calls n).end_/\(bW x f).2=true/\z.calls.length=n+2/\0<(ab z.calls (n+1)).end_/\(ab (ab z.calls (n+1)).au 0).yes=true/\(ab (ab z.calls (n+1)).au 0).aY.val=78/\(ab (ab z.calls (n+1)).au 0).aY.aj=0/\0<(ab z.calls (n+1)).au.length:=by
 obtain⟨p1,p2,p3,p4,p5⟩:=EB l;have p6:=p4.len;rw[hw] at p1 p2 p5 p6;have sQ:eZ e=[5]:=by unfold eZ;rw[h2,ha];rfl
 have hk:fU (ey {w with time:=w.time+1} e)=true:=by
  show(jZ (eZ e)&&((e.call==1&&(((eZ e).length:Int)==1))||(e.call==2&&aJ (eZ e).length 1 3)))=true;rw[sQ,h2];decide
 have ED:eZ f=[5]:=by unfold eZ;rw[f2,fa,fb];rfl
 have fk:fU (ey {x with time:=x.time+1} f)=true:=by
  show(jZ (eZ f)&&((f.call==1&&(((eZ f).length:Int)==1))||(f.call==2&&aJ (eZ f).length 1 3)))=true;rw[ED,f2];decide
 have q0:=p1.less (s:=0) aP;have p8:eF e.aj=true:=by rw[hc];decide
 have EE:eF f.aj=true:=by rw[fc];decide
 obtain⟨b1,_,b3,b4,b5,b6,b7⟩:=zP q0 p2 om om h1 p8 hk om;obtain⟨v,s1,s2,s3,s4,s5,s6,s7,s8,s9,tn⟩:=Yc p1 p2 om om h1 p8 h2 hk om;rw[hy] at b3 b4 b5 b6 s1 s2 s3 s4 s6 s9;rw[hn] at s1 s2 s3 s6 s9;have BL:y.calls.length=n+1:=by rw[b6.len,b7];simp[hn]
 have ht:=b5.time;obtain⟨d1,d2,d3,d4⟩:=OX b5.inv b5.more om;have Yd:=s1.bl 25 b3.still.al;rw[hx] at d1 d2 d3 d4 Yd;have Ye:x.calls.length=n+1:=by rw[d4.len,BL]
 have lg:=d4.same n om;have O0:=d3.eC _ v s4;have Di:∀{σ:Nat} {u:aA},be x σ u->u.key=v.key->bQ v.ar u.ar=false:=λhu hk=>Yd.Yb O0 (by rw[lg.1];exact s5.trans s3.symm) (by rw[lg.2.1];exact s6) tn hu hk;have Am:=d3.time;have Bs:∀σ u,be x σ u->be x 1 u:=λσ u hu=>Em d1 hu.lt aP hu;have q1:=d1.less (s:=0) aP;obtain⟨c1,_,c3,c4,c5,c6,c7⟩:=zP q1 d2 om om f1 EE fk fv;obtain⟨r1,r2,r3,r4,r5⟩:=OY (V:=be x 1) q1 d2 om om f1 EE om fk fv Bs (λu hu=>by rw[fc];exact hu);rw[hz,Ye] at r1 r3 r4 r5;rw[hz,Ye] at r2;rw[hz] at c5;have kk:(ab z.calls (n+1)).keys=[5]:=r3.2.2.2.1.trans ED;obtain⟨a,g1,g2⟩:=aoa (c5.inv.aN.call (i:=n+1) om) kk r5;have BJ:=r1.au a (by rw[g1];simp);obtain⟨t1,t2⟩:=BJ.is (Bs _ _ O0) (by rw[s7,ha,g2]) (λu hu nN=>Di hu nN) (λu hu hd=>d3.inv.uniq _ _ u v hu O0 hd);refine⟨b1,BL,s2,c1,by rw[r2],r4,?_⟩;rw[g1];show a.yes=true/\a.aY.val=78/\a.aY.aj=0/\0<1;rw[t2];exact⟨t1,by rw[s8,hv],by rw[s5,hc],by decide⟩
def mJ:Ev:=⟨0,0,0,0,0,0,1,5,0,0,78⟩
def wm:Ev:=⟨0,0,1,0,0,0,2,5,0,0,0⟩
def aoc {l:List Ev} (hl:(cx l).calls.length<=17):wi l mJ=true/\0<(nT l mJ).end_/\qg (bl 25 (j4 l mJ)) wm=true/\0<(mh (bl 25 (j4 l mJ)) wm).end_/\(ab (mh (bl 25 (j4 l mJ)) wm).au 0).yes=true/\(ab (mh (bl 25 (j4 l mJ)) wm).au 0).aY.val=78/\(ab (mh (bl 25 (j4 l mJ)) wm).au 0).aY.aj=0/\0<(mh (bl 25 (j4 l mJ)) wm).au.length:=by
 obtain⟨e1,e2,e3⟩:=Ex (e:=mJ) hl;obtain⟨a,b,c,d,f,g,h,i,j,k⟩:=aob l hl (e:=oP mJ) (f:=oP wm) rfl rfl rfl rfl rfl rfl rfl rfl rfl rfl aP rfl (y:=lC (bl 25 (cx l)) mJ) rfl (x:=bl 25 (lC (bl 25 (cx l)) mJ)) rfl (z:=lC (bl 25 (lC (bl 25 (cx l)) mJ)) wm) rfl rfl;obtain⟨m,n⟩:=Ew a b;obtain⟨p,q⟩:=Ew d f;rw[e1,e2,e3,n,q];exact⟨m,c,p,g,h,i,j,k⟩
def Ys (code:List UInt8):
 Fn prog 5 [gn code] (AV.bool true):=by
 refine Fn.go 75 func5 ntmps5 (λW I a U=>?_);have hle:=U.eE (t:=0) rfl;refine aX λI a w U=>?_;refine cz (λae=>?_) λae=>?_
 .refine bf ?_;rfl
 refine bD λI a w U=>?_;refine U.cY [] (Ey code om) (ax .r aH) rfl aP rfl λl I a w vT U=>?_;refine aG λI a w U=>?_;refine U.o (.bd gO (.k (.k (.k (.k aZ.nil))))) λU=>?_;refine U.o (.cl (OZ l mJ)) λU=>?_;refine bx λI a w U=>?_;refine U.alloc rfl dP dW λb4 I a w U=>U.alloc rfl eJ im λb5 I a w U=>?_;refine U.sb 0 λU=>?_;obtain⟨I,U⟩:=U.fb 0 4;refine U.sb 1 λU=>?_;obtain⟨I,U⟩:=U.fb 1 5;refine aB λI a w U=>?_;have BK:=then_ok l mJ;refine aF λI a w U=>?_;refine Cy (λah=>?_) λah=>?_
 .refine bD λI a w U=>?_;refine U.o (bO (M7 (then_ok l mJ)) (ax .tt aH)) λU=>?_;refine aG λI a w U=>?_;refine U.q .T (.cl (BI l)) λU=>?_;refine U.q .T .mv λU=>?_;refine U.q .T (.cl (Et l)) λU=>?_;refine U.q .T (.cl (DV (cx l) (By _))) λU=>?_;refine c8 ?_;exact bB bn
 have uM:=Ow ah;have aM:=aoc uM;refine aR λI a w U=>?_;refine U.cd (λaq=>?_) λaq=>?_
 .exfalso;have:=aM.2.1;simp only[B] at aq;omega;skip
 refine bD λI a w U=>?_;refine U.o (.c1 (Ii (j4 l mJ) BK)) λU=>?_;refine U.o (.bd gO (.k (.k (.k aZ.nil)))) λU=>?_;refine U.o (.c2 (OV (bl 25 (j4 l mJ)) wm (Ej 25 BK))) λU=>?_;refine bx λI a w U=>?_;refine U.alloc rfl dP dW λb7 I a w U=>U.alloc rfl eJ im λb8 I a w U=>?_;refine U.sb 2 λU=>?_;obtain⟨I,U⟩:=U.fb 2 7;refine U.sb 3 λU=>?_;obtain⟨I,U⟩:=U.fb 3 8;refine aB λI a w U=>?_;obtain⟨h1,h2,h3,h4,h5,h6,h7,h8⟩:=aM;refine wJ λI a w U=>?_;refine U.q .T (ff (i:=0) gP fg .ag .c (λhg=>by omega)) λU=>?_;refine dZ λI a w U=>?_;refine U.q .T (ff (i:=0) gP fg .ag .c (λhg=>by omega)) λU=>?_;refine mz λI a w U=>?_;refine U.q .T (ff (i:=0) gP fg .ag .c (λhg=>by omega)) λU=>?_;refine iM λI a w U=>?_;refine U.rt ?_;exact bB (by rw[h3,h5,h6,h7];simp[h4])
end Go.Proofs.YtldbakcpcfdlaaaGreat
