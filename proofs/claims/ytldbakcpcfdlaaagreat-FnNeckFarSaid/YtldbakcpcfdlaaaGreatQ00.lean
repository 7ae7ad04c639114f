/- Part 49: contracts of functions, plain facts. -/
import Derived.Test.YtldbakcpcfdlaaaGreatP48
set_option linter.all false
set_option maxRecDepth 100000
set_option maxHeartbeats 4000000
namespace Go.Proofs.YtldbakcpcfdlaaaGreat
open Go Go.RowKit Tryz
attribute [local irreducible] wpList Code.wp Ok
def an4 (s:cE):bQ s s=false:=by
 cases h:bQ s s with
 |false=>rfl
 |true=>have:=CU h;rw[h] at this;cases this
def jE.Yb {V:aA->Prop} {n:Nat} {y:ai} (h:jE V n y) {τ:Nat} {v:aA} (hv:be y τ v) (h1:v.aj=(ab y.calls n).aj) (h2:v.call=(ab y.calls n).num) (hn:¬V v) {σ:Nat} {u:aA} (hu:be y σ u) (hk:u.key=v.key):bQ v.ar u.ar=false:=by
 rcases h.new σ u hu with h3|⟨h3,h4,_⟩
 .rcases h.new τ v hv with h5|⟨_,_,h5⟩
  .exact absurd h5 hn
  exact h5 u h3 hk
 rw[h.calm.inv.once _ _ u v hu hv (by rw[h1,h3]) (by rw[h2,h4])];exact an4 _
def Yc {w:ai} (hq:ie w 20) (he:kD w) (ht:w.time<=60000) (hl:w.calls.length<=19) {e:Ev} (h1:e.kind=1) (hc:eF e.aj=true) (hp:e.call=1) (hk:fU (ey {w with time:=w.time+1} e)=true) (hv:0<=e.val/\e.val<=9999):
 ∃v,jE (be w 0) w.calls.length (bl 2 (bW w e).1)/\0<(ab (bl 2 (bW w e).1).calls w.calls.length).end_/\(ab (bl 2 (bW w e).1).calls w.calls.length).aj=e.aj/\be (bl 2 (bW w e).1) e.aj.toNat v/\v.aj=e.aj/\v.call=(ab (bl 2 (bW w e).1).calls w.calls.length).num/\v.key=e.a/\v.val=e.val/\v.ar=(ab (bl 2 (bW w e).1).calls w.calls.length).ar/\¬be w 0 v:=by
 have mj:=hq.still.calm;obtain⟨b1,b2⟩:=Ou mj.inv.aN om he hl h1 hc hk hv;obtain⟨_,c2,c3,c4,c5,c6,c7⟩:=zP (hq.less aP) he ht hl h1 hc hk hv;have g0:=we mj.inv mj.more e;rw[<-b2] at g0;have en:ab (bW w e).1.calls w.calls.length=ey {w with time:=w.time+1} e:=by rw[c7,AM]
 have nil:∀m,m∈(bW w e).1.al->False:=λm hm=>by rw[b1] at hm;have:=hq.still.al;dsimp only at hm;rw[this] at hm;simp at hm
 have p0:jE (be w 0) w.calls.length (bW w e).1:={
  calm:=mj.frame g0.inv g0.more (by rw[b1])
  rest:=λi hi k hk=>by rw[b1];exact hq.rest i hi k hk
  len:=by rw[c7];simp
  new:=λσ v hv=>by
   rw[b1] at hv;have dU:be w σ v:=hv;exact .inl (Em hq dU.lt aP dU)
  sup:=λv hv σ hσ=>by rw[b1];exact Em hq aP hσ hv
  kinds:=λm hm=>absurd (nil m hm) id
  one:=λm hm=>absurd (nil m hm) id
  over:=by rw[en];rfl
  others:=λk hk aW=>by
   rw[c7] at hk⊢;rw[List.length_append,List.length_singleton] at hk;rw[sL om];exact he k om}
 have p2:=p0.bl 2 (by rw[b1];exact hq.still.al);have hlen:(bl 2 (bW w e).1).calls.length=w.calls.length+1:=by rw[c6.len,c7];simp
 have ja:=c6.same w.calls.length (by rw[c7];simp);rw[en] at ja;obtain⟨m1,m2,m3,m4,m5,m6⟩:=ja;have lT:=c4 w.calls.length om;have CC:=p2.over;have aW:(ab (bl 2 (bW w e).1).calls w.calls.length).end_≠0:=λe0=>by
  unfold bV at lT;rw[e0,CC] at lT;simp at lT
 have hI:=c5.inv;have hg:=hI.aN.call (i:=w.calls.length) om;have lY:=hg.ended aW;have dr:ab (bl 2 (bW w e).1).calls w.calls.length∈(bl 2 (bW w e).1).calls:=bh om;obtain⟨v,v1,v2,v3,v4,v5⟩:=hI.done _ dr (m3.trans hp) aW;obtain⟨q,q1,q2,q3,_,q5,q6,_⟩:=hI.made _ v v1;have hqq:=DW hI.aN q1 dr (q2.trans v2) (q3.trans v3);have mc:(ab (bl 2 (bW w e).1).calls w.calls.length).aj=e.aj:=m1;rw[mc] at v1 v2;refine⟨v,p2,by have:=lY.2.1;have:=hg.bH;omega,mc,v1,v2,v3,?_,?_,v5,λhw=>?_⟩
 .rw[v4,m4];rfl
 .rw[<-q6,hqq,m5];show(if e.call=1 then e.val else 0)=_;rw[if_pos hp]
 obtain⟨p,r1,r2,r3,_⟩:=mj.inv.made _ v hw;obtain⟨i,hi,rfl⟩:=fS r1;have ei:ab (bW w e).1.calls i=ab w.calls i:=by rw[c7,sL hi]
 have es:=c6.same i (by rw[c7];simp;omega);rw[ei] at es;have bz:=M1 hI.aN (i:=i) (j:=w.calls.length) hi om (by rw[es.1,r2,mc,v2]);have:=es.2.1;omega
def sC.is {V:aA->Prop} {a:Answer} {v:aA} (hb:sC V a) (hV:V v) (hk:v.key=a.key) (uw:∀u,V u->u.key=v.key->bQ v.ar u.ar=false) (hu:∀u,V u->u.aU=v.aU->u=v):a.yes=true/\a.aY=v:=by
 have hy:a.yes=true:=by
  cases hy:a.yes with
  |true=>rfl
  |false=>exact absurd hk (hb.no hy v hV)
 obtain⟨h1,h2,h3⟩:=hb.top hy;have U:=FU (h3 v hV hk) (uw a.aY h1 (h2.trans hk.symm));exact⟨hy,hu a.aY h1 (by unfold aA.aU;rw[U,h2,hk])⟩
def an6 {q:Call} {t:Int} (hg:dJ q t) {k0 k1:Int} (hk:q.keys=[k0,k1]) (hlen:q.au.length=q.keys.length) (h01:k0<k1):∃a b,q.au=[a,b]/\a.key=k0/\b.key=k1:=by
 have hh:=hg.has;have U:=hg.sorted;rw[hk] at hlen;match e:q.au,hlen with
 |[a,b],_=>
  rw[e] at U
  have h1:=lR.1 (hh a (by rw[e];simp))
  have h2:=lR.1 (hh b (by rw[e];simp))
  rw[hk] at h1 h2
  simp only[List.mem_cons,List.not_mem_nil,or_false] at h1 h2
  simp only[List.pairwise_cons,List.mem_singleton,forall_eq,gZ,decide_eq_true_eq] at U
  have:=U.1
  exact⟨a,b,rfl,by omega,by omega⟩
def an7 (l:List Ev) (hl:(cx l).calls.length<=17) {e f:Ev} (h1:e.kind=1) (hc:e.aj=1) (h2:e.call=1) (ha:e.a=2) (hv:e.val=77) (f1:f.kind=1) (fc:f.aj=1) (f2:f.call=2) (fa:f.a=2) (fb:f.b=4) (fcc:f.c=0) (fv:0<=f.val/\f.val<=9999)
 {w y z:ai} (hw:bl 25 (cx l)=w) (hy:bl 2 (bW w e).1=y) (hz:bl 2 (bW y f).1=z) {n:Nat} (hn:w.calls.length=n):
 (bW w e).2=true/\y.calls.length=n+1/\0<(ab y.calls n).end_/\(bW y f).2=true/\z.calls.length=n+2/\0<(ab z.calls (n+1)).end_/\(ab (ab z.calls (n+1)).au 0).yes=true/\(ab (ab z.calls (n+1)).au 0).aY.val=77/\(ab (ab z.calls (n+1)).au 0).aY.ar=(ab y.calls n).ar/\0<(ab z.calls (n+1)).au.length:=by
 obtain⟨p1,p2,p3,p4,p5⟩:=EB l;have p6:=p4.len;rw[hw] at p1 p2 p5 p6;have sQ:eZ e=[2]:=by unfold eZ;rw[h2,ha];rfl
 have hk:fU (ey {w with time:=w.time+1} e)=true:=by
  show(jZ (eZ e)&&((e.call==1&&(((eZ e).length:Int)==1))||(e.call==2&&aJ (eZ e).length 1 3)))=true;rw[sQ,h2];decide
 have ED:eZ f=[2,4]:=by unfold eZ;rw[f2,fa,fb,fcc];rfl
 have fk:fU (ey {y with time:=y.time+1} f)=true:=by
  show(jZ (eZ f)&&((f.call==1&&(((eZ f).length:Int)==1))||(f.call==2&&aJ (eZ f).length 1 3)))=true;rw[ED,f2];decide
 have q0:=p1.less (s:=0) aP;have p8:eF e.aj=true:=by rw[hc];decide
 have EE:eF f.aj=true:=by rw[fc];decide
 obtain⟨b1,_,b3,b4,b5,b6,b7⟩:=zP q0 p2 om om h1 p8 hk om;obtain⟨v,s1,s2,s3,s4,s5,s6,s7,s8,s9,tn⟩:=Yc p1 p2 om om h1 p8 h2 hk om;rw[hy] at b3 b4 b5 b6 s1 s2 s3 s4 s6 s9;rw[hn] at s1 s2 s3 s6 s9;have BL:y.calls.length=n+1:=by rw[b6.len,b7];simp[hn]
 have ht:=b5.time;have Di:∀{σ:Nat} {u:aA},be y σ u->u.key=v.key->bQ v.ar u.ar=false:=λhu hk=>s1.Yb s4 (s5.trans s3.symm) s6 tn hu hk;rw[hc] at s3 s4;have Bs:∀σ u,be y σ u->be y 1 u:=λσ u hu=>by
  rcases s1.new σ u hu with h|⟨h,_,_⟩
  .exact s1.sup u h 1 aP
  have:=(b5.inv.home σ u hu).2;rw[h,s3] at this;exact this
 obtain⟨c1,_,c3,c4,c5,c6,c7⟩:=zP b3 b4 om om f1 EE fk fv;obtain⟨r1,r2,r3,r4,r5⟩:=OY (V:=be y 1) b3 b4 om om f1 EE om fk fv Bs (λu hu=>by rw[fc];exact hu);rw[hz,BL] at r1 r3 r4 r5;rw[hz,BL] at r2;rw[hz] at c5;have kk:(ab z.calls (n+1)).keys=[2,4]:=r3.2.2.2.1.trans ED;obtain⟨a,b,g1,g2,g3⟩:=an6 (c5.inv.aN.call (i:=n+1) om) kk r5 aP;have BJ:=r1.au a (by rw[g1];simp);obtain⟨t1,t2⟩:=BJ.is s4 (by rw[s7,ha,g2]) (λu hu nN=>Di hu nN) (λu hu hd=>b5.inv.uniq _ _ u v hu s4 hd);refine⟨b1,BL,s2,c1,by rw[r2],r4,?_⟩;rw[g1];show a.yes=true/\a.aY.val=77/\a.aY.ar=_/\0<2;rw[t2];exact⟨t1,by rw[s8,hv],s9,by decide⟩
def ni:Ev:=⟨0,0,1,0,0,0,1,2,0,0,77⟩
def wk:Ev:=⟨0,0,1,0,0,0,2,2,4,0,0⟩
def an9 {l:List Ev} (hl:(cx l).calls.length<=17):wi l ni=true/\0<(nT l ni).end_/\qg (j4 l ni) wk=true/\0<(mh (j4 l ni) wk).end_/\(ab (mh (j4 l ni) wk).au 0).yes=true/\(ab (mh (j4 l ni) wk).au 0).aY.val=77/\(ab (mh (j4 l ni) wk).au 0).aY.ar=(nT l ni).ar/\0<(mh (j4 l ni) wk).au.length:=by
 obtain⟨e1,e2,e3⟩:=Ex (e:=ni) hl;obtain⟨a,b,c,d,f,g,h,i,j,k⟩:=an7 l hl (e:=oP ni) (f:=oP wk) rfl rfl rfl rfl rfl rfl rfl rfl rfl rfl rfl aP rfl (y:=lC (bl 25 (cx l)) ni) rfl (z:=lC (lC (bl 25 (cx l)) ni) wk) rfl rfl;obtain⟨m,n⟩:=Ew a b;obtain⟨p,q⟩:=Ew d f;rw[e1,e2,e3,n,q];exact⟨m,c,p,g,h,i,j,k⟩
def Yt (code:List UInt8):
 Fn prog 4 [gn code] (AV.bool true):=by
 refine Fn.go 76 func4 ntmps4 (λW I a U=>?_);have hle:=U.eE (t:=0) rfl;refine aX λI a w U=>?_;refine cz (λae=>?_) λae=>?_
 .refine bf ?_;rfl
 refine bD λI a w U=>?_;refine U.cY [] (Ey code om) (ax .r aH) rfl aP rfl λl I a w vT U=>?_;refine aG λI a w U=>?_;refine U.o (.bd gO (.k (.k (.k (.k aZ.nil))))) λU=>?_;refine U.o (.cl (OZ l ni)) λU=>?_;refine bx λI a w U=>?_;refine U.alloc rfl dP dW λb4 I a w U=>U.alloc rfl eJ im λb5 I a w U=>?_;refine U.sb 0 λU=>?_;obtain⟨I,U⟩:=U.fb 0 4;refine U.sb 1 λU=>?_;obtain⟨I,U⟩:=U.fb 1 5;refine aB λI a w U=>?_;have BK:=then_ok l ni;refine aF λI a w U=>?_;refine Cy (λah=>?_) λah=>?_
 .refine bD λI a w U=>?_;refine U.o (bO (M7 (then_ok l ni)) (ax .tt aH)) λU=>?_;refine aG λI a w U=>?_;refine U.q .T (.cl (BI l)) λU=>?_;refine U.q .T .mv λU=>?_;refine U.q .T (.cl (Et l)) λU=>?_;refine U.q .T (.cl (DV (cx l) (By _))) λU=>?_;refine c8 ?_;exact bB bn
 have uM:=Ow ah;have aM:=an9 uM;refine aR λI a w U=>?_;refine U.cd (λaq=>?_) λaq=>?_
 .exfalso;have:=aM.2.1;simp only[B] at aq;omega;skip
 refine bD λI a w U=>?_;refine U.o (.bd gO (.k (.k (.k (.k aZ.nil))))) λU=>?_;refine U.o (.c2 (OV (j4 l ni) wk BK)) λU=>?_;refine bx λI a w U=>?_;refine U.alloc rfl dP dW λb7 I a w U=>U.alloc rfl eJ im λb8 I a w U=>?_;refine U.sb 2 λU=>?_;obtain⟨I,U⟩:=U.fb 2 7;refine U.sb 3 λU=>?_;obtain⟨I,U⟩:=U.fb 3 8;refine aB λI a w U=>?_;obtain⟨h1,h2,h3,h4,h5,h6,h7,h8⟩:=aM;refine U.dk ?_;refine vh ?_;refine .q .T (ff (i:=0) gP fg .ag .c (λhg=>by omega)) ?_;refine iA ?_;refine .q .T (ff (i:=0) gP fg .ag .c (λhg=>by omega)) ?_;refine ny ?_;refine .q .T (ff (i:=0) gP fg .ag .c (λhg=>by omega)) ?_;refine fZ ?_;refine .q .T (nr [_,_] [_,_] nz rfl rfl .ag .ag) ?_;refine cG ?_;refine .nil ?_;intro I a w U;refine zt ?_;refine U.rt ?_;exact bB (by rw[h3,h5,h6,h7];simp[h4])
end Go.Proofs.YtldbakcpcfdlaaaGreat
