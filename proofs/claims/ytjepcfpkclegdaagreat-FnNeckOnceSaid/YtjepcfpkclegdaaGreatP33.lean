/- Part 33: contracts of functions, plain facts. -/
import Derived.Test.YtjepcfpkclegdaaGreatP26
import Derived.Test.YtjepcfpkclegdaaGreatP27
import Derived.Test.YtjepcfpkclegdaaGreatP29
set_option linter.unusedVariables false
set_option linter.unusedSimpArgs false
set_option maxRecDepth 100000
set_option maxHeartbeats 4000000
namespace Go.Proofs.YtjepcfpkclegdaaGreat
open Go Go.RowKit
attribute [local irreducible] wpList Code.wp Ok
theorem adG (x:aE) (si:∀q∈x.calls,q.az.length<=1048576):
 Fn Tryz.prog 66 [x.av] (AV.bool (ey x)):=by
 refine Fn.go 88 Tryz.func66 Tryz.ntmps66 (λW I a U=>?_)
 have lens:x.ax.length<=9223372036854775807/\x.ar.length<=9223372036854775807/\x.calls.length<=9223372036854775807/\x.seen.length<=9223372036854775807:=⟨U.ln 0 1,U.ln 0 2,U.ln 0 3,U.ln 0 4⟩
 refine bt λI a w U=>?_
 refine U.o (.cl (jM ..)) λU=>?_
 refine UN λI a w U=>?_
 refine U.q .F (Ah (λhg=>Q4 x.calls x.time (by simp[aQ] at hg;omega) si) (aw .ag (aw .ag aL))) λU=>?_
 refine aA λI a w U=>?_
 refine U.cd (λae=>?_) λae=>?_
 ·rw[PT] at ae;replace ae:=nt ae
  refine ai λI a w U=>?_
  refine U.rt ?_
  exact bG (by unfold ey;rw[yR,A2];revert ae;cases oz x<;>cases jq x.calls x.time<;>simp)
 ·rw[PT] at ae;replace ae:=nf ae
  refine ai λI a w U=>?_
  refine St.lo (σ:=Nat) (run 2 2 (run 24 36 [])) ⟨λk=>[(3,AV.int k)],λk=>[],λk=>k<=x.ax.length/\∀i,i<k->(qP x) i=true⟩ (λk=>x.ax.length-k) 0 U ?aJ ?aK
  case aJ=>exact⟨Nat.zero_le _,λi hi=>by omega⟩
  case aK=>
   rintro k I a w aj U
   obtain⟨o1,aN⟩:=aj
   refine ck λI a w U=>?_
   refine cz (λah=>?_) λah=>?_
   ·refine bM λI a w U=>?_
    refine U.o (.c1 (vw ..)) λU=>?_
    refine Cm λI a w U=>?_
    refine U.cd (λal=>?_) λal=>?_
    ·rw[Pg] at al;replace al:=nt al
     refine ai λI a w U=>?_
     refine U.rt ?_
     exact bG (by unfold ey;rw[yR,A2];rw[eB (f:=qP x) ah al];simp)
    ·rw[Pg] at al;replace al:=nf al
     refine aI λI a w U=>?_
     exact U.ag (k+1) (⟨by omega,fg aN al⟩)
   ·refine zt ?_
    refine ai λI a w U=>?_
    refine St.lo (σ:=Nat) (2::(4::(run 14 60 []))) ⟨λk2=>[(4,AV.int k2)],λk2=>[],λk2=>k2<=x.ar.length/\∀i,i<k2->(λi=>bO (ab x.ar i)) i=true⟩ (λk2=>x.ar.length-k2) 0 U ?cU ?cV
    case cU=>exact⟨Nat.zero_le _,λi hi=>by omega⟩
    case cV=>
     rintro k2 I a w aj U
     obtain⟨xh,jC⟩:=aj
     refine ck λI a w U=>?_
     refine cz (λaH=>?_) λaH=>?_
     ·refine bM λI a w U=>?_
      refine U.o (.c1 (Hb ..)) λU=>?_
      refine ai λI a w U=>?_
      refine U.cd (λaM=>?_) λaM=>?_
      ·replace aM:=nt aM
       refine ai λI a w U=>?_
       refine U.rt ?_
       exact bG (by unfold ey;rw[yR,A2];rw[eB (f:=λi=>bO (ab x.ar i)) aH aM];simp)
      ·replace aM:=nf aM
       refine aI λI a w U=>?_
       exact U.ag (k2+1) (⟨by omega,fg jC aM⟩)
     ·refine zt ?_
      refine ai λI a w U=>?_
      refine St.lo (σ:=Nat) (2::(5::(run 14 74 []))) ⟨λk3=>[(5,AV.int k3)],λk3=>[],λk3=>k3<=x.seen.length/\∀i,i<k3->(λi=>bN (ab x.seen i)) i=true⟩ (λk3=>x.seen.length-k3) 0 U ?fo ?fq
      case fo=>exact⟨Nat.zero_le _,λi hi=>by omega⟩
      case fq=>
       rintro k3 I a w aj U
       obtain⟨H9,pX⟩:=aj
       refine ck λI a w U=>?_
       refine cz (λbh=>?_) λbh=>?_
       ·refine bM λI a w U=>?_
        refine U.o (.cl (rQ ..)) λU=>?_
        refine ai λI a w U=>?_
        refine U.cd (λaZ=>?_) λaZ=>?_
        ·replace aZ:=nt aZ
         refine ai λI a w U=>?_
         refine U.rt ?_
         exact bG (by unfold ey;rw[yR,A2];rw[eB (f:=λi=>bN (ab x.seen i)) bh aZ];simp)
        ·replace aZ:=nf aZ
         refine aI λI a w U=>?_
         exact U.ag (k3+1) (⟨by omega,fg pX aZ⟩)
       ·refine zt ?_
        refine ai λI a w U=>?_
        refine U.rt ?_
        exact bG (by unfold ey;rw[yR,A2];rw[eP aN (by omega),eP jC (by omega),eP pX (by omega)];rw[Bool.and_eq_true] at ae;rw[ae.1,ae.2];rfl)
theorem adH (s:Server) (m:aC) (hg:bF s) (hm:bO m=true):
 Fn Tryz.prog 185 [s.av,m.av] (AV.dx [(fJ s m).1.av,bq (fJ s m).2]):=by
 refine Fn.go 38 Tryz.func185 Tryz.ntmps185 (λW I a U=>?_)
 have aj:=jY.2 hg
 have jE:=hg.small
 refine aF λI a w U=>?_
 refine U.alloc rfl cm dF λb4 I a w U=>?_
 refine aF λI a w U=>?_
 refine U.o (.c1 (xq s)) λU=>?_
 refine ai λI a w U=>?_
 refine U.cd (λae=>?_) λae=>?_
 ·exfalso;rw[aj] at ae;cases ae
  skip
 ·refine bM λI a w U=>?_
  refine U.q .F (bY (H5 m (by have:=u7 hm;unfold gh;omega) (by have:=u7 hm;unfold gh;omega)) (aw .ag aL)) λU=>?_
  refine mA λI a w U=>?_
  refine U.cd (λah=>?_) λah=>?_
  ·rw[C6] at ah;replace ah:=nt ah
   refine bH λI a w U=>?_
   refine U.o (.c1 (ua s jE)) λU=>?_
   refine aA λI a w U=>?_
   refine U.ret rfl (.cons (.sx 0) (.cons (.nil (sz:=15) rfl) aX.nil)) ?_
   exact(by unfold fJ;rw[ah];rfl)
  ·rw[C6] at ah;replace ah:=nf ah;have hu:=IN hg hm (GM ah).1
   refine aF λI a w U=>?_
   refine U.o (.c2 (ada s m hg hm)) λU=>?_
   refine bk λI a w U=>?_
   refine U.alloc rfl cm dF λb6 I a w U=>?_
   refine U.sb 1 λU=>?_
   obtain⟨I,U⟩:=U.fb 1 6
   refine aF λI a w U=>?_
   refine U.o (.c1 (ua (eG s m).1 hu.small)) λU=>?_
   refine aI λI a w U=>?_
   refine U.ret rfl (.cons (.sx 0) (.cons .x aX.nil)) ?_
   exact(by unfold fJ;rw[ah,if_pos rfl];rfl)
theorem adI {l:List Ev} {k:Nat} (h:k<l.length):(fP (wK l k) (ab l k)).1=wK l (k+1):=by
 have e:∀x e,ey x=true->(fP x e).1=(fQ x e).1:=λx e h=>by unfold fQ;rw[if_pos h]
 rw[e _ _ (I4 l k)]
 unfold wK
 rw[dW h,List.foldl_append];rfl
structure oI (w:aE) (i:Nat) (s:Server) (n:Option aB):Prop where
 aW:bF s
 site:s.site=(sv w i).site
 aG:s.aG=(sv w i).aG
 ao:∀v∈(sv w i).ao,v∈s.ao
 cont:∀v∈(sv w i).waits,v∈s.ao\/v∈s.waits
 Br:∀v∈s.ao,v∈(sv w i).ao\/(dX (sv w i) v.key=1/\(∀d∈v.aO,∃u,u.aT=d/\bU w (i/2) u)/\(bU w (1-i/2) v\/n=some v))
 I9:∀v∈s.waits,v∈(sv w i).waits\/(dX (sv w i) v.key=1/\bU w (1-i/2) v)
 adJ:∀v∈(sv w i).waits,dX (sv w i) v.key≠1->v∈s.waits
 bl:∀d∈s.bl,d∈(sv w i).bl\/∃u,u.aT=d/\bU w (i/2) u
 aD:∀d∈s.aD,d∈(sv w i).aD\/∃v,n=some v/\d=v.aT
 Ru:∀d∈(sv w i).aD,d∈s.aD\/((ab (sv w i).aG (cQ d.key).toNat).dH=1/\∀v∈(sv w i).ao,v.aT=d->nI w (1-i/2) v)
 new:∀v,n=some v->v∈s.ao/\v.aT∈s.aD/\dX (sv w i) v.key=1/\bL v.aq.site=v.an/\v.an=((i/2:Nat):Int)/\(∀σ u,bU w σ u->u.aT≠v.aT/\¬(u.an=v.an/\u.call=v.call))/\
  ∃q∈w.calls,q.an=v.an/\q.num=v.call/\q.kind=1/\ab q.keys 0=v.key/\q.val=v.val/\q.ctx=v.aO
theorem oI.ext {w:aE} (h:Inv w) {i:Nat} (hi:i<4) {s:Server} {n:Option aB} (g:oI w i s n):Ext w (dO w i s) where
 ee:=λ{σ v} ⟨j,hj,e,hv⟩=>⟨j,hj,e,by
  rw[uc h.aW hi]
  split
  ·rename_i ej;subst ej;exact g.ao v hv
  ·exact hv⟩
 cont:=λ{σ v} ⟨j,hj,e,hv⟩=>⟨j,hj,e,by
  rw[uc h.aW hi]
  split
  ·rename_i ej;subst ej
   rcases hv with hv|hv
   ·exact .inl (g.ao v hv)
   ·exact g.cont v hv
  ·exact hv⟩
 ep:=λj hj k hk=>by
  unfold Go.Proofs.YtjepcfpkclegdaaGreat.ep
  rw[uc h.aW hi]
  split
  ·rename_i ej;subst ej;rw[g.aG];exact Int.le_refl _
  ·exact Int.le_refl _
 calls:=λq hq=>⟨q,hq,lM.refl q⟩
theorem oI.back {w:aE} (h:Inv w) {i:Nat} (hi:i<4) {s:Server} {n:Option aB} (g:oI w i s n) {σ:Nat} {v:aB} (hv:bU (dO w i s) σ v):(∃τ,bU w τ v)\/n=some v:=by
 obtain⟨j,hj,e,hv⟩:=hv
 rw[uc h.aW hi] at hv
 split at hv
 ·rename_i ej;subst ej
  rcases g.Br v hv with h1|⟨_,_,h1|h1⟩
  ·exact .inl ⟨_,bU.here hj h1⟩
  ·exact .inl ⟨_,h1⟩
  ·exact .inr h1
 ·exact .inl ⟨_,j,hj,e,hv⟩
theorem oI.inv {w:aE} (h:Inv w) {i:Nat} (hi:i<4) {s:Server} {n:Option aB} (g:oI w i s n):Inv (dO w i s):=by
 have hx:=g.ext h hi
 have jX:∀j,(sv (dO w i s) j).aG=(sv w j).aG:=λj=>by
  rw[uc h.aW hi];split
  ·rename_i e;subst e;exact g.aG
  ·rfl
 have hb:∀j k,behind (sv (dO w i s) j) (sv (dO w i s) (bW j)) k↔behind (sv w j) (sv w (bW j)) k:=λj k=>XE (jX j) (jX (bW j))
 have en:∀{v:aB},dM v=true->dX (sv w i) v.key=1->¬behind (sv w i) (sv w (bW i)) (vk v):=λhv bc=>OQ (h.fits i hi _ (tV hv)) bc
 have Rv:bW i≠i:=Gk i
 have jS:=oi hi
 have bj:∀j,j≠i->sv (dO w i s) j=sv w j:=λj hj=>yU h.aW hi s hj
 have eM:sv (dO w i s) i=s:=oG h.aW hi s
 have hVs:∀{v},v∈(sv w i).ao->v∈(sv (dO w i s) i).ao:=λhv=>by rw[eM];exact g.ao _ hv
 have hCs:∀{v},v∈(sv w i).ao\/v∈(sv w i).waits->v∈(sv (dO w i s) i).ao\/v∈(sv (dO w i s) i).waits:=λhv=>by
  rw[eM]
  rcases hv with hv|hv
  ·exact .inl (g.ao _ hv)
  ·exact g.cont _ hv
 have adM:∀j v,j<4->v∈(sv w j).ao->v∈(sv (dO w i s) j).ao:=λj v hj hv=>by
  by_cases e:j=i
  ·subst e;exact hVs hv
  ·rw[bj j e];exact hv
 have adN:∀j v,j<4->(v∈(sv w j).ao\/v∈(sv w j).waits)->(v∈(sv (dO w i s) j).ao\/v∈(sv (dO w i s) j).waits):=λj v hj hv=>by
  by_cases e:j=i
  ·subst e;exact hCs hv
  ·rw[bj j e];exact hv
 have D8:∀v,n=some v->bU (dO w i s) v.an.toNat v:=λv e=>by
  have:=g.new v e
  refine⟨i,hi,by omega,?_⟩
  rw[eM];exact this.1
 refine⟨P5 h.aW hi g.aW g.site,?_,?_,?_,?_,?_,?_,?_,?_,?_,?_,?_,?_,?_,?_,?_,?_,h.jD,h.fresh,?_⟩
 ·intro j hj k hk
  rw[jX,jX];exact h.fits j hj k hk
 ·intro j hj v hv pn
  rw[hb] at pn
  apply adM _ _ (oi hj)
  by_cases e:j=i
  ·subst e
   rw[eM] at hv
   rcases g.Br v hv with h1|⟨h1,_⟩
   ·exact h.pj j hj v h1 pn
   ·exact absurd pn (en (gu g.aW.ao v hv) h1)
  ·rw[bj j e] at hv
   exact h.pj j hj v hv pn
 ·intro j hj v hv pn
  rw[hb] at pn
  apply adN _ _ (oi hj)
  by_cases e:j=i
  ·subst e
   rw[eM] at hv
   rcases g.I9 v hv with h1|⟨h1,_⟩
   ·exact h.rl j hj v h1 pn
   ·exact absurd pn (en (gu g.aW.waits v hv) h1)
  ·rw[bj j e] at hv
   exact h.rl j hj v hv pn
 ·intro j hj v hv d hd
  have key:v∈(sv w j).ao->∃u,u.aT=d/\bU (dO w i s) (j/2) u:=λhv=>let⟨u,e1,e2⟩:=h.Bp j hj v hv d hd;⟨u,e1,hx.ee e2⟩
  by_cases e:j=i
  ·subst e
   rw[eM] at hv
   rcases g.Br v hv with h1|⟨_,h1,_⟩
   ·exact key h1
   ·obtain⟨u,e1,e2⟩:=h1 d hd
    exact⟨u,e1,hx.ee e2⟩
  ·rw[bj j e] at hv;exact key hv
 ·intro j hj v hv
  by_cases e:j=i
  ·subst e
   rw[eM] at hv
   rcases g.I9 v hv with h1|⟨_,h1⟩
   ·exact hx.ee (h.pk j hj v h1)
   ·exact hx.ee h1
  ·rw[bj j e] at hv;exact hx.ee (h.pk j hj v hv)
 ·intro j hj d hd
  by_cases e:j=i
  ·subst e
   rw[eM] at hd
   rcases g.bl d hd with h1|⟨u,e1,e2⟩
   ·obtain⟨u,e1,e2⟩:=h.bl j hj d h1
    exact⟨u,e1,hx.ee e2⟩
   ·exact⟨u,e1,hx.ee e2⟩
  ·rw[bj j e] at hd
   obtain⟨u,e1,e2⟩:=h.bl j hj d hd
   exact⟨u,e1,hx.ee e2⟩
 ·intro j hj d hd
  by_cases e:j=i
  ·subst e
   rw[eM] at hd
   rcases g.aD d hd with h1|⟨v,e1,rfl⟩
   ·exact h.aD j hj d h1
   ·obtain⟨_,_,_,a1,a2,_⟩:=g.new v e1
    show bL v.aq.site=_
    rw[a1,a2]
  ·rw[bj j e] at hd;exact h.aD j hj d hd
 ·intro j hj v hv iP pn
  rw[hb] at pn
  by_cases e:j=i
  ·subst e
   rw[eM] at hv⊢
   rcases g.Br v hv with h1|⟨_,_,h1|h1⟩
   ·rcases h.p8 j hj v h1 iP pn with h2|h2
    ·rcases g.Ru _ h2 with h3|⟨_,h3⟩
     ·exact .inl h3
     ·exact .inr (hx.cont (h3 v h1 rfl))
    ·exact .inr (hx.cont h2)
   ·exact .inr (hx.ee h1).cont
   ·exact .inl (g.new v h1).2.1
  ·rw[bj j e] at hv⊢
   rcases h.p8 j hj v hv iP pn with h2|h2
   ·exact .inl h2
   ·exact .inr (hx.cont h2)
 ·intro σ v hv
  rcases g.back h hi hv with⟨τ,h1⟩|h1
  ·have:=h.home τ v h1
   exact⟨this.1,hx.ee this.2⟩
  ·exact⟨(g.new v h1).2.2.2.1,D8 v h1⟩
 ·intro σ τ u v hu hv hd
  rcases g.back h hi hu with⟨_,h1⟩|h1<;>rcases g.back h hi hv with⟨_,h2⟩|h2
  ·exact h.uniq _ _ u v h1 h2 hd
  ·exact absurd hd ((g.new v h2).2.2.2.2.2.1 _ u h1).1
  ·exact absurd hd.symm ((g.new u h1).2.2.2.2.2.1 _ v h2).1
  ·rw[h1] at h2;exact Option.some.inj h2
 ·intro σ τ u v hu hv hc hn
  rcases g.back h hi hu with⟨_,h1⟩|h1<;>rcases g.back h hi hv with⟨_,h2⟩|h2
  ·exact h.once _ _ u v h1 h2 hc hn
  ·exact absurd ⟨hc,hn⟩ ((g.new v h2).2.2.2.2.2.1 _ u h1).2
  ·exact absurd ⟨hc.symm,hn.symm⟩ ((g.new u h1).2.2.2.2.2.1 _ v h2).2
  ·rw[h1] at h2;exact Option.some.inj h2
 ·intro σ v hv
  rcases g.back h hi hv with⟨_,h1⟩|h1
  ·exact h.made _ v h1
  ·exact(g.new v h1).2.2.2.2.2.2
 ·intro q hq h1 h2
  obtain⟨v,a,b⟩:=h.done q hq h1 h2
  exact⟨v,hx.ee a,b⟩
 ·exactλq hq=>(h.ctx q hq).ext hx
 ·exactλk hk=>(h.seen k hk).ext hx
 ·exactλq hq=>(h.az q hq).ext hx
 ·intro m hm
  refine(h.words m hm).ext hx (h.aW.words m hm) λe9 hl hf=>.inr ?_
  by_cases e:m.aR.toNat=i
  ·rw[e] at hf⊢
   rw[eM]
   obtain⟨f1,f2,f3,f4⟩:=hf
   have alo:=qK (h.aW.words m hm)
   have bc:∀key,cQ key=m.slot->dX (sv w i) key=1->False:=λkey ek hk=>by
    unfold dX at hk;rw[ek,f1] at hk;cases hk
   refine⟨by rw[g.aG];exact f1,λv=>(f2 v).trans ⟨λ⟨a,b⟩=>⟨g.ao v a,b⟩,λ⟨a,b⟩=>⟨?_,b⟩⟩,λv=>(f3 v).trans ⟨λ⟨a,b⟩=>⟨g.adJ v a λhk=>bc _ b hk,b⟩,λ⟨a,b⟩=>⟨?_,b⟩⟩,λd=>(f4 d).trans ⟨λ⟨a,b⟩=>⟨?_,b⟩,λ⟨a,b⟩=>⟨?_,b⟩⟩⟩
   ·rcases g.Br v a with h1|⟨h1,_⟩
    ·exact h1
    ·exact(bc _ b h1).elim
   ·rcases g.I9 v a with h1|⟨h1,_⟩
    ·exact h1
    ·exact(bc _ b h1).elim
   ·rcases g.Ru d a with h1|⟨h1,_⟩
    ·exact h1
    ·exact(bc _ b h1).elim
   ·rcases g.aD d a with h1|⟨v,e1,rfl⟩
    ·exact h1
    ·exact(bc _ b (g.new v e1).2.2.1).elim
  ·rw[bj _ e];exact hf
structure uk (w:aE) (i:Nat) (s:Server) (k:Nat):Prop where
 aW:bF s
 site:s.site=(sv w i).site
 aG:∀j,j<3->j≠k->ab s.aG j=ab (sv w i).aG j
 ao:∀v,dM v=true->vk v≠k->(v∈s.ao↔v∈(sv w i).ao)
 waits:∀v,dM v=true->vk v≠k->(v∈s.waits↔v∈(sv w i).waits)
 D9:∀d:au,(cQ d.key).toNat≠k->(d∈s.aD↔d∈(sv w i).aD)
 bl:∀d∈s.bl,d∈(sv w i).bl
 fits:lO (ab s.aG k) (ab (sv w (bW i)).aG k)=true
 ep:(ab (sv w i).aG k).bz<=(ab s.aG k).bz
 back:∀v∈s.ao,vk v=k->bU w (i/2) v
 adO:∀v∈s.waits,vk v=k->bU w (1-i/2) v
 ee:∀v∈(sv w i).ao,vk v=k->v∈s.ao\/v∈(sv w (bW i)).ao
 cont:∀v∈(sv w i).waits,vk v=k->(v∈s.ao\/v∈s.waits)\/(v∈(sv w (bW i)).ao\/v∈(sv w (bW i)).waits)
 adP:behind s (sv w (bW i)) k->∀v∈s.ao,vk v=k->v∈(sv w (bW i)).ao
 adQ:behind (sv w (bW i)) s k->∀v∈(sv w (bW i)).ao,vk v=k->v∈s.ao
 adR:behind s (sv w (bW i)) k->∀v∈s.waits,vk v=k->v∈(sv w (bW i)).ao\/v∈(sv w (bW i)).waits
 adS:behind (sv w (bW i)) s k->∀v∈(sv w (bW i)).waits,vk v=k->v∈s.ao\/v∈s.waits
 aD:∀d∈s.aD,(cQ d.key).toNat=k->bL d.aq.site=((i/2:Nat):Int)
 adT:¬behind s (sv w (bW i)) k->∀v∈s.ao,vk v=k->bL v.aq.site=((i/2:Nat):Int)->v.aT∈s.aD\/nI w (1-i/2) v
 adU:¬behind (sv w (bW i)) s k->∀v∈(sv w (bW i)).ao,vk v=k->bL v.aq.site=((i/2:Nat):Int)->v.aT∈(sv w (bW i)).aD\/nI w (1-i/2) v
 hold:(ab (sv w i).aG k).dH=2->(ab (sv w i).aG k).bz<=(ab (sv w (bW i)).aG k).bz
theorem uk.ext {w:aE} (h:Inv w) {i:Nat} (hi:i<4) {s:Server} {k:Nat} (g:uk w i s k):Ext w (dO w i s) where
 ee:=λ{σ v} ⟨j,hj,e,hv⟩=>by
  by_cases ej:j=i
  ·subst ej
   have eA:=jB (h.dj hj) (.inl hv)
   by_cases ek:vk v=k
   ·rcases g.ee v hv ek with h1|h1
    ·exact⟨j,hj,e,by rw[oG h.aW hj];exact h1⟩
    ·exact⟨bW j,oi hj,by rw[nB];exact e,by rw[P4 h.aW hj];exact h1⟩
   ·exact⟨j,hj,e,by rw[oG h.aW hj];exact(g.ao v eA ek).2 hv⟩
  ·exact⟨j,hj,e,by rw[yU h.aW hi s ej];exact hv⟩
 cont:=λ{σ v} ⟨j,hj,e,hv⟩=>by
  by_cases ej:j=i
  ·subst ej
   have eA:=jB (h.dj hj) hv
   by_cases ek:vk v=k
   ·have key:(v∈s.ao\/v∈s.waits)\/(v∈(sv w (bW j)).ao\/v∈(sv w (bW j)).waits):=by
     rcases hv with hv|hv
     ·rcases g.ee v hv ek with h1|h1
      ·exact .inl (.inl h1)
      ·exact .inr (.inl h1)
     ·exact g.cont v hv ek
    rcases key with h1|h1
    ·exact⟨j,hj,e,by rw[oG h.aW hj];exact h1⟩
    ·exact⟨bW j,oi hj,by rw[nB];exact e,by rw[P4 h.aW hj];exact h1⟩
   ·refine⟨j,hj,e,?_⟩
    rw[oG h.aW hj]
    rcases hv with hv|hv
    ·exact .inl ((g.ao v eA ek).2 hv)
    ·exact .inr ((g.waits v eA ek).2 hv)
  ·exact⟨j,hj,e,by rw[yU h.aW hi s ej];exact hv⟩
 ep:=λj hj x hx=>by
  unfold Go.Proofs.YtjepcfpkclegdaaGreat.ep
  rw[uc h.aW hi]
  split
  ·rename_i ej;subst ej
   by_cases e:x=k
   ·subst e;exact g.ep
   ·rw[g.aG x hx e];exact Int.le_refl _
  ·exact Int.le_refl _
 calls:=λq hq=>⟨q,hq,lM.refl q⟩
theorem uk.adV {w:aE} (h:Inv w) {i:Nat} (hi:i<4) {s:Server} {k:Nat} (g:uk w i s k) {σ:Nat} {v:aB} (hv:bU (dO w i s) σ v):bU w σ v:=by
 obtain⟨j,hj,e,hv⟩:=hv
 by_cases ej:j=i
 ·subst ej
  rw[oG h.aW hj] at hv
  have eA:=jB g.aW (.inl hv)
  by_cases ek:vk v=k
  ·rw[<-e];exact g.back v hv ek
  ·exact⟨j,hj,e,(g.ao v eA ek).1 hv⟩
 ·rw[yU h.aW hi s ej] at hv
  exact⟨j,hj,e,hv⟩
theorem Ea {w:aE} (h:Inv w) {σ:Nat} {v:aB} (hv:bU w σ v) {d:au} (hd:d∈v.aO):∃u,u.aT=d/\bU w σ u:=by
 obtain⟨i,hi,rfl,hv⟩:=hv
 exact h.Bp i hi v hv d hd
theorem uk.inv {w:aE} (h:Inv w) {i:Nat} (hi:i<4) {s:Server} {k:Nat} (hk:k<3) (g:uk w i s k):Inv (dO w i s):=by
 have hx:=g.ext h hi
 have tx:=λ{σ v}=>g.adV h hi (σ:=σ) (v:=v)
 have Rv:bW i≠i:=Gk i
 have jS:=oi hi
 have bj:∀j,j≠i->sv (dO w i s) j=sv w j:=λj hj=>yU h.aW hi s hj
 have eM:sv (dO w i s) i=s:=oG h.aW hi s
 have bc:sv (dO w i s) (bW i)=sv w (bW i):=bj _ Rv
 have Ja:∀x,x<3->x≠k->(behind s (sv w (bW i)) x↔behind (sv w i) (sv w (bW i)) x):=λx um rb=>by unfold behind;rw[g.aG x um rb]
 have Jb:∀x,x<3->x≠k->(behind (sv w (bW i)) s x↔behind (sv w (bW i)) (sv w i) x):=λx um rb=>by unfold behind;rw[g.aG x um rb]
 have Eb:∀j,j<4->j=i\/j=bW i\/(j≠i/\bW j≠i):=λj hj=>by
  by_cases e:j=i
  ·exact .inl e
  ·by_cases e2:bW j=i
   ·exact .inr (.inl (by rw[<-e2,j8]))
   ·exact .inr (.inr ⟨e,e2⟩)
 refine⟨P5 h.aW hi g.aW g.site,?_,?_,?_,?_,?_,?_,?_,?_,?_,?_,?_,?_,?_,?_,?_,?_,h.jD,h.fresh,?_⟩
 ·intro j hj x um
  rcases Eb j hj with rfl|rfl|⟨e1,e2⟩
  ·rw[eM,bc]
   by_cases e:x=k
   ·subst e;exact g.fits
   ·rw[g.aG x um e];exact h.fits j hj x um
  ·rw[j8,eM,bc]
   have Rw:∀a b,lO a b=true->lO b a=true:=λa b Gc=>by
    unfold lO at*;simp only[Bool.or_eq_true] at*
    rcases Gc with((h1|h1)|h1)|h1
    ·exact .inl (.inl (.inr h1))
    ·exact .inl (.inl (.inl h1))
    ·exact .inr h1
    ·exact .inl (.inr h1)
   by_cases e:x=k
   ·subst e;exact Rw _ _ g.fits
   ·rw[g.aG x um e];exact Rw _ _ (h.fits i hi x um)
  ·rw[bj j e1,bj _ e2];exact h.fits j hj x um
 ·intro j hj v hv hb
  rcases Eb j hj with rfl|rfl|⟨e1,e2⟩
  ·rw[eM] at hv hb;rw[bc] at hb⊢
   have eA:=jB g.aW (.inl hv)
   by_cases e:vk v=k
   ·exact g.adP (e▸hb) v hv e
   ·exact h.pj j hj v ((g.ao v eA e).1 hv) ((Ja _ (tV eA) e).1 hb)
  ·rw[j8,eM,bc] at hb;rw[bc] at hv;rw[j8,eM]
   have eA:=jB (h.dj jS) (.inl hv)
   by_cases e:vk v=k
   ·exact g.adQ (e▸hb) v hv e
   ·have:=h.pj _ jS v hv (by rw[j8];exact(Jb _ (tV eA) e).1 hb)
    rw[j8] at this
    exact(g.ao v eA e).2 this
  ·rw[bj j e1] at hv hb;rw[bj _ e2] at hb⊢;exact h.pj j hj v hv hb
 ·intro j hj v hv hb
  rcases Eb j hj with rfl|rfl|⟨e1,e2⟩
  ·rw[eM] at hv hb;rw[bc] at hb⊢
   have eA:=jB g.aW (.inr hv)
   by_cases e:vk v=k
   ·exact g.adR (e▸hb) v hv e
   ·exact h.rl j hj v ((g.waits v eA e).1 hv) ((Ja _ (tV eA) e).1 hb)
  ·rw[j8,eM,bc] at hb;rw[bc] at hv;rw[j8,eM]
   have eA:=jB (h.dj jS) (.inr hv)
   by_cases e:vk v=k
   ·exact g.adS (e▸hb) v hv e
   ·have:=h.rl _ jS v hv (by rw[j8];exact(Jb _ (tV eA) e).1 hb)
    rw[j8] at this
    rcases this with this|this
    ·exact .inl ((g.ao v eA e).2 this)
    ·exact .inr ((g.waits v eA e).2 this)
  ·rw[bj j e1] at hv hb;rw[bj _ e2] at hb⊢;exact h.rl j hj v hv hb
 ·intro j hj v hv d hd
  obtain⟨u,e1,e2⟩:=Ea h (tx (bU.here hj hv)) hd
  exact⟨u,e1,hx.ee e2⟩
 ·intro j hj v hv
  by_cases e:j=i
  ·subst e
   rw[eM] at hv
   have eA:=jB g.aW (.inr hv)
   by_cases e:vk v=k
   ·exact hx.ee (g.adO v hv e)
   ·exact hx.ee (h.pk j hj v ((g.waits v eA e).1 hv))
  ·rw[bj j e] at hv;exact hx.ee (h.pk j hj v hv)
 ·intro j hj d hd
  have key:∀d∈(sv w j).bl,∃u,u.aT=d/\bU (dO w i s) (j/2) u:=λd hd=>let⟨u,e1,e2⟩:=h.bl j hj d hd;⟨u,e1,hx.ee e2⟩
  by_cases e:j=i
  ·subst e
   rw[eM] at hd;exact key d (g.bl d hd)
  ·rw[bj j e] at hd;exact key d hd
 ·intro j hj d hd
  by_cases e:j=i
  ·subst e
   rw[eM] at hd
   by_cases e:(cQ d.key).toNat=k
   ·exact g.aD d hd e
   ·exact h.aD j hj d ((g.D9 d e).1 hd)
  ·rw[bj j e] at hd;exact h.aD j hj d hd
 ·intro j hj v hv U hb
  rcases Eb j hj with rfl|rfl|⟨e1,e2⟩
  ·rw[eM] at hv hb⊢;rw[bc] at hb
   have eA:=jB g.aW (.inl hv)
   by_cases e:vk v=k
   ·rcases g.adT (e▸hb) v hv e U with h1|h1
    ·exact .inl h1
    ·exact .inr (hx.cont h1)
   ·rcases h.p8 j hj v ((g.ao v eA e).1 hv) U (λh1=>hb ((Ja _ (tV eA) e).2 h1)) with h1|h1
    ·exact .inl ((g.D9 v.aT e).2 h1)
    ·exact .inr (hx.cont h1)
  ·rw[j8,eM,bc] at hb;rw[bc] at hv⊢;rw[nB] at U⊢
   have eA:=jB (h.dj jS) (.inl hv)
   by_cases e:vk v=k
   ·rcases g.adU (e▸hb) v hv e U with h1|h1
    ·exact .inl h1
    ·exact .inr (hx.cont h1)
   ·rcases h.p8 _ jS v hv (by rw[nB];exact U) (λh1=>hb ((Jb _ (tV eA) e).2 (by rwa[j8] at h1))) with h1|h1
    ·exact .inl h1
    ·rw[nB] at h1;exact .inr (hx.cont h1)
  ·rw[bj j e1] at hv hb⊢;rw[bj _ e2] at hb
   rcases h.p8 j hj v hv U hb with h1|h1
   ·exact .inl h1
   ·exact .inr (hx.cont h1)
 ·intro σ v hv
  have:=h.home σ v (tx hv)
  exact⟨this.1,hx.ee this.2⟩
 ·exactλσ τ u v hu hv hd=>h.uniq _ _ u v (tx hu) (tx hv) hd
 ·exactλσ τ u v hu hv hd=>h.once _ _ u v (tx hu) (tx hv) hd
 ·exactλσ v hv=>h.made _ v (tx hv)
 ·intro q hq h1 h2
  obtain⟨v,a,b⟩:=h.done q hq h1 h2
  exact⟨v,hx.ee a,b⟩
 ·exactλq hq=>(h.ctx q hq).ext hx
 ·exactλk hk=>(h.seen k hk).ext hx
 ·exactλq hq=>(h.az q hq).ext hx
 ·intro m hm
  refine(h.words m hm).ext hx (h.aW.words m hm) λe9 hl hf=>?_
  have jX:=qK (h.aW.words m hm)
  by_cases e:m.aR.toNat=i
  ·rw[e] at hf⊢
   rw[eM]
   obtain⟨f1,f2,f3,f4⟩:=hf
   by_cases e2:m.slot.toNat=k
   ·rw[e2] at f1⊢
    left
    unfold Go.Proofs.YtjepcfpkclegdaaGreat.ep
    rw[bc]
    have:=g.hold (by rw[f1])
    rw[f1] at this;exact this
   ·right
    have eS:∀{key:Int},cQ key=m.slot->(cQ key).toNat≠k:=λek=>by rw[ek];exact e2
    refine⟨by rw[g.aG _ (by omega) e2];exact f1,λv=>?_,λv=>?_,λd=>?_⟩
    ·rw[f2 v]
     constructor
     ·rintro⟨a,b⟩;exact⟨(g.ao v (jB (h.dj hi) (.inl a)) (eS b)).2 a,b⟩
     ·rintro⟨a,b⟩;exact⟨(g.ao v (jB g.aW (.inl a)) (eS b)).1 a,b⟩
    ·rw[f3 v]
     constructor
     ·rintro⟨a,b⟩;exact⟨(g.waits v (jB (h.dj hi) (.inr a)) (eS b)).2 a,b⟩
     ·rintro⟨a,b⟩;exact⟨(g.waits v (jB g.aW (.inr a)) (eS b)).1 a,b⟩
    ·rw[f4 d]
     constructor
     ·rintro⟨a,b⟩;exact⟨(g.D9 d (eS b)).2 a,b⟩
     ·rintro⟨a,b⟩;exact⟨(g.D9 d (eS b)).1 a,b⟩
  ·right;rw[bj _ e];exact hf
theorem Ext.trans {w x y:aE} (h:Ext w x) (h':Ext x y):Ext w y:=
 ⟨λhv=>h'.ee (h.ee hv),λhv=>h'.cont (h.cont hv),λi hi k hk=>Int.le_trans (h.ep i hi k hk) (h'.ep i hi k hk),λq hq=>by
  obtain⟨p,hp,s⟩:=h.calls q hq
  obtain⟨r,hr,s'⟩:=h'.calls p hp
  exact⟨r,hr,s.trans s'⟩⟩
theorem adW {w:aE} (h:Inv w) {i:Nat} (hi:i<4) {m:aC} (hm:bO m=true) (ha:ep w i m.slot.toNat<m.bz) (hf:yu (sv w (bW i)) m) (hg:bF (lQ (sv w i) m)):
 uk w i (lQ (sv w i) m) m.slot.toNat:=by
 have jX:=qK hm
 have Rx:=oB hm
 obtain⟨f1,f2,f3,f4⟩:=hf
 have lP:m.slot.toNat<3:=by omega
 have jS:=oi hi
 have hlen:(sv w i).aG.length=3:=(h.dj hi).aG
 have vD:∀j,ab (lQ (sv w i) m).aG j=if j=m.slot.toNat then⟨m.bz,1⟩ else ab (sv w i).aG j:=λj=>ld (by rw[show(dY (sv w i) m.slot).aG=(sv w i).aG from rfl,hlen];exact lP)
 have lq:ab (lQ (sv w i) m).aG m.slot.toNat=⟨m.bz,1⟩:=by rw[vD,if_pos rfl]
 have hv:∀v,v∈(lQ (sv w i) m).ao↔(v∈(sv w i).ao/\cQ v.key≠m.slot)\/v∈m.ao:=λv=>
  (OS (s:=sv w i) hm (l:=(dY (sv w i) m.slot).ao) (vs:=m.ao) (λv hv=>(Iu.1 hv).2) (λv hv=>((f2 v).1 hv).2) Rx.1 v).trans (or_congr Iu Iff.rfl)
 have xB:∀v,v∈(lQ (sv w i) m).waits↔(v∈(sv w i).waits/\cQ v.key≠m.slot)\/v∈m.waits:=λv=>
  (OS (s:=sv w i) hm (l:=(dY (sv w i) m.slot).waits) (vs:=m.waits) (λv hv=>(Iv.1 hv).2) (λv hv=>((f3 v).1 hv).2) Rx.2.1 v).trans (or_congr Iv Iff.rfl)
 have ho:∀d,d∈(lQ (sv w i) m).aD↔(d∈(sv w i).aD/\cQ d.key≠m.slot)\/d∈m.aD:=λd=>Qm.trans (or_congr QC Iff.rfl)
 have uq:behind (sv w i) (sv w (bW i)) m.slot.toNat:=by
  left;rw[f1];exact ha
 have rj:behind (sv w (bW i)) (lQ (sv w i) m) m.slot.toNat:=by
  right;rw[f1,lq];exact⟨rfl,rfl⟩
 have Bs:¬behind (lQ (sv w i) m) (sv w (bW i)) m.slot.toNat:=by
  unfold behind;rw[f1,lq];simp
 have Jc:¬behind (sv w (bW i)) (sv w i) m.slot.toNat:=by
  have hx:=h.fits i hi _ lP
  exact Hq hx uq
 have nc:∀{v:aB},dM v=true->(vk v=m.slot.toNat↔cQ v.key=m.slot):=λhv=>OP hv jX.1
 have Bk:∀v∈m.ao,v∈(sv w (bW i)).ao/\cQ v.key=m.slot:=λv hv=>(f2 v).1 hv
 have IV:∀v∈m.waits,v∈(sv w (bW i)).waits/\cQ v.key=m.slot:=λv hv=>(f3 v).1 hv
 have dk:∀{d:au},(cQ d.key).toNat≠m.slot.toNat->cQ d.key≠m.slot:=λe e2=>e (by rw[e2])
 refine⟨hg,rfl,λj hj bj=>by rw[vD,if_neg bj],λv eA bj=>?_,λv eA bj=>?_,λd bj=>?_,λd hd=>hd,?_,?_,λv dT e=>?_,λv dT e=>?_,λv dT e=>.inl ((hv v).2 (.inr ((f2 v).2 ⟨?_,?_⟩))),λv dT e=>.inl ?_,λhb=>absurd hb Bs,λ_ v dT e=>(hv v).2 (.inr ((f2 v).2 ⟨dT,?_⟩)),λhb=>absurd hb Bs,λ_ v dT e=>.inr ((xB v).2 (.inr ((f3 v).2 ⟨dT,?_⟩))),λd hd e=>?_,λ_ v dT e U=>?_,λhb=>absurd rj hb,λbc=>?_⟩
 ·rw[hv]
  constructor
  ·rintro(⟨a,_⟩|a)
   ·exact a
   ·exact absurd ((nc eA).2 (Bk v a).2) bj
  ·exactλa=>.inl ⟨a,λe=>bj ((nc eA).2 e)⟩
 ·rw[xB]
  constructor
  ·rintro(⟨a,_⟩|a)
   ·exact a
   ·exact absurd ((nc eA).2 (IV v a).2) bj
  ·exactλa=>.inl ⟨a,λe=>bj ((nc eA).2 e)⟩
 ·rw[ho]
  constructor
  ·rintro(⟨a,_⟩|a)
   ·exact a
   ·exact absurd ((f4 d).1 a).2 (dk bj)
  ·exactλa=>.inl ⟨a,dk bj⟩
 ·rw[lq,f1];simp[lO,tz]
 ·rw[lq];exact Int.le_of_lt ha
 ·have eA:=jB hg (.inl dT)
  rcases(hv v).1 dT with⟨_,a⟩|a
  ·exact absurd ((nc eA).1 e) a
  ·have:=bU.here jS (Bk v a).1
   rwa[nB] at this
 ·have eA:=jB hg (.inr dT)
  rcases(xB v).1 dT with⟨_,a⟩|a
  ·exact absurd ((nc eA).1 e) a
  ·have:=h.pk _ jS v (IV v a).1
   rwa[nB] at this
 ·exact h.pj i hi v dT (e▸uq)
 ·exact(nc (jB (h.dj hi) (.inl dT))).1 e
 ·have eA:=jB (h.dj hi) (.inr dT)
  have e':=(nc eA).1 e
  rcases h.rl i hi v dT (e▸uq) with a|a
  ·exact .inl ((hv v).2 (.inr ((f2 v).2 ⟨a,e'⟩)))
  ·exact .inr ((xB v).2 (.inr ((f3 v).2 ⟨a,e'⟩)))
 ·exact(nc (jB (h.dj jS) (.inl dT))).1 e
 ·exact(nc (jB (h.dj jS) (.inr dT))).1 e
 ·rcases(ho d).1 hd with⟨a,_⟩|a
  ·exact h.aD i hi d a
  ·have:=h.aD _ jS d ((f4 d).1 a).1
   rwa[nB] at this
 ·have eA:=jB hg (.inl dT)
  rcases(hv v).1 dT with⟨_,a⟩|a
  ·exact absurd ((nc eA).1 e) a
  ·rcases h.p8 _ jS v (Bk v a).1 (by rw[nB];exact U) (by rw[j8,e];exact Jc) with b|b
   ·exact .inl ((ho _).2 (.inr ((f4 _).2 ⟨b,(Bk v a).2⟩)))
   ·rw[nB] at b;exact .inr b
 ·rw[f1];exact Int.le_of_lt ha
theorem adX {w:aE} (h:Inv w) {i:Nat} (hi:i<4) {m:aC} (hm:bO m=true) (h2:(ab (sv w i).aG m.slot.toNat).dH=2) (he:(ab (sv w i).aG m.slot.toNat).bz=m.bz) (ht:m.bz<=ep w (bW i) m.slot.toNat):
 uk w i (l8 (sv w i) m) m.slot.toNat:=by
 have jX:=qK hm
 have lP:m.slot.toNat<3:=by omega
 have jS:=oi hi
 have hlen:(sv w i).aG.length=3:=(h.dj hi).aG
 have vD:∀j,ab (l8 (sv w i) m).aG j=if j=m.slot.toNat then⟨m.bz,0⟩ else ab (sv w i).aG j:=λj=>ld (by rw[show(dY (sv w i) m.slot).aG=(sv w i).aG from rfl,hlen];exact lP)
 have lq:ab (l8 (sv w i) m).aG m.slot.toNat=⟨m.bz,0⟩:=by rw[vD,if_pos rfl]
 have hg:bF (l8 (sv w i) m):=Qr (h.dj hi) hm
 have nc:∀{v:aB},dM v=true->(vk v=m.slot.toNat↔cQ v.key=m.slot):=λhv=>OP hv jX.1
 have hv:∀v,v∈(l8 (sv w i) m).ao↔v∈(sv w i).ao/\cQ v.key≠m.slot:=λv=>Iu
 have xB:∀v,v∈(l8 (sv w i) m).waits↔v∈(sv w i).waits/\cQ v.key≠m.slot:=λv=>Iv
 have ho:∀d,d∈(l8 (sv w i) m).aD↔d∈(sv w i).aD/\cQ d.key≠m.slot:=λd=>QC
 have iT:=h.fits i hi _ lP
 have DU:(ab (sv w i).aG m.slot.toNat).bz<=(ab (sv w (bW i)).aG m.slot.toNat).bz:=by rw[he];exact ht
 have uq:behind (sv w i) (sv w (bW i)) m.slot.toNat:=by
  rcases Y0 iT with hb|hb
  ·exact hb
  ·unfold behind at hb;omega
 have Jc:¬behind (sv w (bW i)) (sv w i) m.slot.toNat:=Hq iT uq
 have rj:¬behind (sv w (bW i)) (l8 (sv w i) m) m.slot.toNat:=by
  unfold behind;rw[lq]
  show¬((ab (sv w (bW i)).aG m.slot.toNat).bz<m.bz\/(_/\(0:Int)=1))
  omega
 have qY:∀v∈(l8 (sv w i) m).ao,vk v≠m.slot.toNat:=λv dT e=>((hv v).1 dT).2 ((nc (jB hg (.inl dT))).1 e)
 have Ry:∀v∈(l8 (sv w i) m).waits,vk v≠m.slot.toNat:=λv dT e=>((xB v).1 dT).2 ((nc (jB hg (.inr dT))).1 e)
 have dk:∀{d:au},(cQ d.key).toNat≠m.slot.toNat->cQ d.key≠m.slot:=λe e2=>e (by rw[e2])
 refine⟨hg,rfl,λj hj bj=>by rw[vD,if_neg bj],λv eA bj=>(hv v).trans ⟨λa=>a.1,λa=>⟨a,λe=>bj ((nc eA).2 e)⟩⟩,λv eA bj=>(xB v).trans ⟨λa=>a.1,λa=>⟨a,λe=>bj ((nc eA).2 e)⟩⟩,λd bj=>(ho d).trans ⟨λa=>a.1,λa=>⟨a,dk bj⟩⟩,λd hd=>hd,?_,?_,
  λv dT e=>absurd e (qY v dT),λv dT e=>absurd e (Ry v dT),λv dT e=>.inr (h.pj i hi v dT (e▸uq)),λv dT e=>.inr (h.rl i hi v dT (e▸uq)),λ_ v dT e=>absurd e (qY v dT),λhb=>absurd hb rj,λ_ v dT e=>absurd e (Ry v dT),λhb=>absurd hb rj,λd hd e=>h.aD i hi d ((ho d).1 hd).1,λ_ v dT e=>absurd e (qY v dT),λ_ v dT e U=>?_,λ_=>DU⟩
 ·rw[lq]
  unfold lO tz va at iT⊢
  simp only[Bool.or_eq_true,Bool.and_eq_true,beq_iff_eq,bne_iff_ne,decide_eq_true_eq] at iT⊢
  simp
  omega
 ·rw[lq,he];exact Int.le_refl _
 ·have:=h.p8 _ jS v dT (by rw[nB];exact U) (by rw[j8,e];exact Jc)
  rwa[nB] at this
theorem Rz {w:aE} (h:Inv w) {i:Nat} (hi:i<4) {slot:Int} (hk:mZ (sv w i) slot=true):uk w i (ka (sv w i) slot) slot.toNat:=by
 obtain⟨_,h0,h2,h1,h9⟩:=w7 hk
 have lP:slot.toNat<3:=by omega
 have jS:=oi hi
 have hlen:(sv w i).aG.length=3:=(h.dj hi).aG
 have vD:∀j,ab (ka (sv w i) slot).aG j=if j=slot.toNat then⟨(ab (sv w i).aG slot.toNat).bz+1,2⟩ else ab (sv w i).aG j:=λj=>ld (by rw[hlen];exact lP)
 have lq:ab (ka (sv w i) slot).aG slot.toNat=⟨(ab (sv w i).aG slot.toNat).bz+1,2⟩:=by rw[vD,if_pos rfl]
 have iT:=h.fits i hi _ lP
 have Lh:=Hp iT h1
 have uq:¬behind (sv w i) (sv w (bW i)) slot.toNat:=OQ iT h1
 have rj:behind (sv w (bW i)) (sv w i) slot.toNat:=OR iT h1
 have Bs:¬behind (ka (sv w i) slot) (sv w (bW i)) slot.toNat:=by
  unfold behind;rw[lq];show¬(_+1<_\/_+1=_/\_);omega
 have adY:behind (sv w (bW i)) (ka (sv w i) slot) slot.toNat:=by
  left;rw[lq];show _<_+1;omega
 refine⟨yY (h.dj hi) hk,rfl,λj hj bj=>by rw[vD,if_neg bj],λv _ _=>Iff.rfl,λv _ _=>Iff.rfl,λd _=>Iff.rfl,λd hd=>hd,?_,?_,λv hv e=>bU.here hi hv,λv hv e=>h.pk i hi v hv,λv hv e=>.inl hv,λv hv e=>.inl (.inr hv),λhb=>absurd hb Bs,λ_ v hv e=>?_,λhb=>absurd hb Bs,λ_ v hv e=>?_,λd hd _=>h.aD i hi d hd,λ_ v hv e U=>h.p8 i hi v hv U (e▸uq),λhb=>absurd adY hb,λe=>by omega⟩
 ·rw[lq]
  unfold lO tz va
  simp only[Bool.or_eq_true,Bool.and_eq_true,beq_iff_eq,bne_iff_ne,decide_eq_true_eq]
  simp
  omega
 ·rw[lq];show _<=_+1;omega
 ·have:=h.pj _ jS v hv (by rw[j8,e];exact rj)
  rwa[j8] at this
 ·have:=h.rl _ jS v hv (by rw[j8,e];exact rj)
  rwa[j8] at this
structure gL (w:aE) (i:Nat) (r:Server×List aC):Prop where
 inv:Inv (dO w i r.1)
 ext:Ext w (dO w i r.1)
 words:∀x∈r.2,eN (dO w i r.1) x
theorem gL.same {w:aE} (h:Inv w) {i:Nat} (hi:i<4) {ws:List aC} (hw:∀x∈ws,eN w x):gL w i (sv w i,ws):=by
 have e:dO w i (sv w i)=w:=Ho (by rw[h.aW.ax];exact hi)
 exact⟨by rw[e];exact h,by rw[e];exact Ext.refl w,by rw[e];exact hw⟩
theorem adZ {w:aE} (h:Inv w) {i:Nat} (hi:i<4) {m:aC} (hm:bO m=true) (g:eN w m) (hk:m.kind=6):gL w i (mY (sv w i) m,[]):=by
 have kq:=h.site hi
 have p6:bF (mY (sv w i) m):=Pj (h.dj hi)
 unfold mY at p6⊢
 split
 ·rename_i hc
  rw[if_pos hc] at p6
  simp only[Bool.and_eq_true,decide_eq_true_eq,bne_iff_ne,beq_iff_eq] at hc
  obtain⟨⟨⟨r1,r2⟩,r3⟩,r4⟩:=hc
  obtain⟨v',e1,e2⟩:=g.k6 hk
  obtain⟨n1,n2,n3,n4⟩:=yC r1
  have Jd:(m.aR/2).toNat=1-i/2:=by
   rw[n2,kq,C9 hi] at r2
   omega
  rw[Jd] at e2
  have Cy:ab (sv w i).aD (fH (sv w i).aD ⟨m.key,m.aq⟩).toNat=⟨m.key,m.aq⟩:=Yr r3
  have gr:oI w i {(sv w i) with aD:=(sv w i).aD.take (fH (sv w i).aD ⟨m.key,m.aq⟩).toNat++(sv w i).aD.drop ((fH (sv w i).aD ⟨m.key,m.aq⟩).toNat+1)} none:=by
   refine⟨p6,rfl,rfl,λu hu=>hu,λu hu=>.inr hu,λu hu=>.inl hu,λu hu=>.inl hu,λu hu _=>hu,λd hd=>.inl hd,λd hd=>.inl (yN hd),λd hd=>?_,λu e=>by cases e⟩
   rcases HO (fH (sv w i).aD ⟨m.key,m.aq⟩).toNat hd with e|hd
   ·right
    rw[Cy] at e
    subst e
    refine⟨r4,λu hu e=>?_⟩
    obtain⟨τ,dT⟩:=e2.ee h
    have:=h.uniq _ _ u v' (bU.here hi hu) dT (e.trans e1.symm)
    rw[this];exact e2
   ·exact .inl hd
  exact⟨gr.inv h hi,gr.ext h hi,λx hx=>by simp at hx⟩
 ·exact gL.same h hi λx hx=>by simp at hx
theorem Je {w:aE} (h:Inv w) {σ:Nat} {v:aB} (hv:bU w σ v):m6 w σ v.aO:=by
 obtain⟨q,hq,c1,_,_,_,_,c6⟩:=h.made σ v hv
 have hc:=h.ctx q hq
 rw[c6] at hc
 intro d hd
 obtain⟨u,h1,h2,h3⟩:=hc d hd
 obtain⟨x,e,hx⟩:=Ea h hv hd
 have:=h.uniq _ _ x u hx h1 (e.trans h2.symm)
 exact⟨x,hx,e,by rw[this];exact h3⟩
theorem Jf {w:aE} (h:Inv w) {σ:Nat}:∀{l:List Answer} {D:List au},m6 w σ D->bN D=true->(∀a∈l,dB a=true)->(∀a∈l,a.yes=true->bU w σ a.be)->m6 w σ (l.foldl l9 D)
 |[],_,hc,_,_,_=>hc
 |a::r,D,hc,hD,hg,hv=>by
  have pC:∀x∈r,dB x=true:=λx hx=>hg x (by simp[hx])
  have RA:∀x∈r,x.yes=true->bU w σ x.be:=λx hx=>hv x (by simp[hx])
  have ha:=hg a (by simp)
  rw[List.foldl_cons]
  cases hy:a.yes
  ·have e:l9 D a=D:=by unfold l9;rw[hy];simp
   rw[e];exact Jf h hc hD pC RA
  ·have e:l9 D a=fN (iK D a.be.aO) a.be.aT:=by unfold l9;rw[hy];simp
   have RB:=hv a (by simp) hy
   have uI:=pT ha
   have hj:bN (iK D a.be.aO)=true:=wT hD λd hd=>pe uI hd
   have bc:=(jk (pJ ha hy).1).2.1
   rw[e]
   exact Jf h (Qo (aaZ hc (Je h RB) hD uI) hj RB bc (P6 hD uI)) (wS hj (yL ha hy).1) pC RA
theorem ad0 {w:aE} (h:Inv w) {q:Call} (hg:∀a∈q.az,dB a=true) (hv:∀a∈q.az,a.yes=true->bU w q.an.toNat a.be):
 ∃C:Int->cw,(∀a∈q.az,∀key,bP (C key) (bx a.be.aO key)=false)/\(∀a∈q.az,bP a.be.aq (C a.key)=false\/(⟨a.key,C a.key⟩:au)∈kO q)/\
  ∀d∈kO q,d.aq=C d.key/\∃u,bU w q.an.toNat u/\u.aT=d/\∀key,bP (C key) (bx u.aO key)=false:=by
 refine⟨λkey=>kd q.az key,λa ha key=>Qp ha key,λa ha=>?_,λd hd=>?_⟩
 ·cases hl:bP a.be.aq (kd q.az a.key)
  ·exact .inl rfl
  ·right
   unfold kO
   refine List.mem_flatten.2 ⟨_,List.mem_map.2 ⟨a,ha,rfl⟩,?_⟩
   unfold oh
   rw[IK hg,hl];simp
 ·obtain⟨a,ha,rfl,hl⟩:=P0 hd
  rw[IK hg] at hl⊢
  refine⟨rfl,?_⟩
  have Jg:kd q.az a.key≠eV:=λe=>by
   have Jh:bP a.be.aq (kd q.az a.key)=true:=hl
   rw[e,Dl (hg a ha)] at Jh;cases Jh
  rcases P7 (l:=q.az) (key:=a.key) with e|⟨b,hb,e⟩
  ·exact absurd e Jg
  ·have OW:b.yes=true:=by
    cases hy:b.yes
    ·exfalso
     rw[u5 (hg b hb) hy] at e
     exact Jg e.symm
    ·rfl
   have hvb:=hv b hb OW
   rcases yG (l:=b.be.aO) (key:=a.key) with e2|e2
   ·exact absurd (e.symm.trans e2) Jg
   ·rw[e] at e2
    obtain⟨u,h1,h2,h3⟩:=Je h hvb _ e2
    exact⟨u,h1,h2,λkey=>qE (h3 key) (Qp hb key)⟩
theorem nb.of {w:aE} {q p:Call} (g:nb w q) (h1:p.an=q.an) (h2:p.az=q.az) (h3:p.ctx=q.ctx) (h4:p.kind=q.kind) (h5:p.keys=q.keys) (h6:p.aP=q.aP):nb w p:=
 ⟨by rw[h1,h2];exact g.ee,by rw[h2,h3];exact g.ctx,by rw[h1,h2,h4,h5,h6];exact g.full⟩
theorem ad2 {w:aE} (h:Inv w) {q:Call} {t:Int} (hq:dw q t) (g:nb w q) (hw:gQ q=true) {a:Answer} (ha:dB a=true) (jh:gU q.keys a.key=true) (hn:cv q a.key<0)
 (hv:a.yes=true->bU w q.an.toNat a.be) (hc:bP a.be.aq (bx q.ctx a.key)=false):nb w (na q a t):=by
 obtain⟨ss,_⟩:=DW hq jh hn
 have Bt:∀x∈cR q.az a,x.yes=true->bU w q.an.toNat x.be:=λx hx hy=>by
  rcases qL.1 hx with rfl|hx
  ·exact hv hy
  ·exact g.ee x hx hy
 have j2:∀x∈cR q.az a,bP x.be.aq (bx q.ctx x.key)=false:=λx hx=>by
  rcases qL.1 hx with rfl|hx
  ·exact hc
  ·exact g.ctx x hx
 have su:∀x∈cR q.az a,dB x=true:=λx hx=>by
  rcases qL.1 hx with rfl|hx
  ·exact ha
  ·exact hq.aW x hx
 unfold na
 dsimp only
 split
 ·rename_i hl
  refine⟨Bt,j2,λ_ e=>?_⟩
  have e':(cR q.az a).length=q.keys.length:=e
  have Jh:(cR q.az a).length<q.keys.length:=hl
  omega
 ·have key:nb w {q with az:=cR q.az a,aP:=q.aP++kO {q with az:=cR q.az a}}:=by
   refine⟨Bt,j2,λ_ _=>?_⟩
   have:=ad0 h (q:={q with az:=cR q.az a}) su Bt
   rw[ss,List.nil_append];exact this
  unfold l7
  split
  ·exact key.of rfl rfl rfl rfl rfl rfl
  ·exact key
theorem ad3 {w:aE} (h:Inv w) {q:Call} {t:Int} (hq:dw q t) (g:nb w q) (hk:q.kind≠1) {a:Answer} (ha:dB a=true) (hy:a.yes=true) (hv:bU w q.an.toNat a.be):nb w (nH q a t):=by
 unfold nH
 split
 ·rename_i jt
  have bj:q.aP≠[]:=λe=>by rw[e] at jt;simp at jt
  have hlen:=hq.full.resolve_left bj
  obtain⟨C,c1,c2,c3⟩:=g.full hk hlen
  obtain⟨d1,u,u1,u2,u3⟩:=c3 _ jt
  have hau:u=a.be:=h.uniq _ _ _ _ u1 hv u2
  subst hau
  have m5:a.be.key=a.key:=(pJ ha hy).2
  have uf:=hq.xy _ jt
  unfold rY at uf
  rw[Bool.and_eq_true,decide_eq_true_eq] at uf
  have p7:0<=cv q a.key:=by rw[<-m5];exact uf.1
  obtain⟨i1,i2⟩:=xk p7
  have bc:a.be.aq=C a.key:=by rw[<-m5];exact d1
  have Bt:∀x∈q.az.set (cv q a.key).toNat a,x.yes=true->bU w q.an.toNat x.be:=λx hx hxy=>by
   rcases tD hx with rfl|⟨k,kg,eD,rfl⟩
   ·exact hv
   ·exact g.ee _ (aV kg) hxy
  have hold:=g.ctx _ (aV i1)
  rw[i2] at hold
  have hb:bP a.be.aq (ab q.az (cv q a.key).toNat).be.aq=false:=by
   have ho:=uf.2
   have IC:a.be.aT.key=a.key:=m5
   rw[IC] at ho
   unfold mT at ho
   rw[Bool.or_eq_true] at ho
   rcases ho with ho|ho
   ·rw[u5 (hq.aW _ (aV i1)) (by simpa using ho)]
    exact OT (pJ ha hy).1
   ·exact C3 ho
  have j2:∀x∈q.az.set (cv q a.key).toNat a,bP x.be.aq (bx q.ctx x.key)=false:=λx hx=>by
   rcases tD hx with rfl|⟨k,kg,eD,rfl⟩
   ·exact qE hold hb
   ·exact g.ctx _ (aV kg)
  have key:∀e:Int,nb w {q with az:=q.az.set (cv q a.key).toNat a,aP:=q.aP.filter λd=>decide (d≠a.be.aT),end_:=e}:=λe=>by
   refine⟨Bt,j2,λ_ _=>⟨C,λx hx key=>?_,λx hx=>?_,λd hd=>c3 d (qJ hd)⟩⟩
   ·rcases tD hx with rfl|⟨k,kg,eD,rfl⟩
    ·exact u3 key
    ·exact c1 _ (aV kg) key
   ·rcases tD hx with rfl|⟨k,kg,eD,rfl⟩
    ·left;rw[bc];exact uZ _
    ·rcases c2 _ (aV kg) with hh|hh
     ·exact .inl hh
     ·right
      refine List.mem_filter.2 ⟨hh,?_⟩
      rw[decide_eq_true_eq]
      intro e
      have e2:(ab q.az k).key=a.be.key:=congrArg au.key e
      have:k=(cv q a.key).toNat:=Pn hq.sorted kg i1 (by rw[e2,m5,i2])
      exact eD this
  dsimp only
  split
  ·exact key _
  ·exact(key q.end_).of rfl rfl rfl rfl rfl rfl
 ·exact g
structure Ec (w:aE) (q p:Call):Prop where
 same:lM q p
 az:nb w p
 done:p.kind=1->p.end_≠0->∃v,bU w p.an.toNat v/\v.an=p.an/\v.call=p.num/\v.key=ab p.keys 0/\v.aq=p.aq
 jD:p.end_≠0->m6 w p.an.toNat (dP p)
theorem ad6 {w:aE} (h:Inv w) {q:Call} (hq:q∈w.calls) (hw0:gQ q=true) {m:aC} (g:eN w m):Ec w q (dm q m w.time):=by
 have xC:=h.az q hq
 have vC:dw q w.time:=by obtain⟨i,hi,rfl⟩:=gq hq;exact h.aW.call hi
 have xi:=(qp hw0).1
 have hp:dw (dm q m w.time) w.time:=y9 vC
 have U:=adi q m w.time
 have bB:=h.ctx q hq
 have vB:Ec w q q:=⟨lM.refl q,xC,λ_ e=>absurd xi e,λe=>absurd xi e⟩
 have read:∀p,nb w p->dw p w.time->lM q p->p.kind≠1->Ec w q p:=λp gp cp s hk=>by
  refine⟨s,gp,λe=>absurd e hk,λe=>?_⟩
  unfold dP
  rw[if_neg e,if_neg hk]
  obtain⟨s1,_,_,_,_,s6⟩:=s
  exact Jf h (by rw[s1,s6];exact bB) cp.ctx cp.aW gp.ee
 unfold dm at hp U⊢
 split
 ·rename_i hc
  rw[if_pos hc] at hp U
  simp only[Bool.and_eq_true,decide_eq_true_eq,beq_iff_eq] at hc
  obtain⟨⟨⟨⟨⟨hm,ke⟩,Bi⟩,jh⟩,hw⟩,hb⟩:=hc
  split
  ·rename_i hk
   rw[if_pos hk] at hp U
   split
   ·rename_i dC
    rw[if_pos dC] at hp U
    obtain⟨v,v1,v2,v3,v4,v5⟩:=g.k2 dC.1
    have ad8:m.to-10=q.an:=by omega
    rw[ad8] at v1 v2
    have Bc:m.key=ab q.keys 0:=by
     have h1:q.keys.length=1:=by have:=vC.keys;simp[iZ,hk] at this;omega
     obtain⟨x,hx⟩:=List.length_eq_one_iff.1 h1
     have:=yO.1 jh
     rw[hx] at this⊢
     simpa[ab] using this
    obtain⟨p,Ji,c1,c2,c3,c4,c5,c6⟩:=h.made _ v v1
    have ur:p=q:=Bj h.aW Ji hq (by rw[c1,v2]) (by rw[c2,v3,Bi])
    subst ur
    have ht:w.time≠0:=by have:=vC.bD;omega
    refine⟨U,xC.of rfl rfl rfl rfl rfl rfl,λ_ _=>⟨v,v1,v2,by rw[v3,Bi],by rw[v4,Bc],v5⟩,λ_=>?_⟩
    have e:dP {p with aq:=m.aq,end_:=w.time}=fN p.ctx v.aT:=by
     unfold dP
     have e1:({p with aq:=m.aq,end_:=w.time}:Call).end_=w.time:=rfl
     rw[if_neg (by rw[e1];exact ht),if_pos hk]
     show fN p.ctx ⟨ab p.keys 0,m.aq⟩=_
     rw[<-Bc,<-v4,<-v5];rfl
    rw[e]
    exact Qo bB vC.ctx v1 (by rw[v5];exact dC.2) (by rw[<-c6];exactλkey=>uZ _)
   ·exact vB
  ·rename_i hk
   rw[if_neg hk] at hp U
   have wi:∀p,lM q p->p.kind≠1:=λp s e=>hk (by rw[<-s.2.2.1];exact e)
   refine(?_:nb w (jW q m w.time)->_) ?_
   ·exactλhg=>read _ hg hp U (wi _ U)
   ·unfold jW
    split
    ·rename_i hr
     obtain⟨p,Ji,k1,k2,k3,k4⟩:=g.k4 hr.1
     have ur:p=q:=Bj h.aW Ji hq (by omega) (by rw[k2,Bi])
     subst ur
     have rk:=Db (q:=p) hm hr.2
     have Jj:m.yes=true->∃v,(dN m).be=v/\v.key=m.key/\bU w p.an.toNat v/\(dL m.aq=true->bP v.aq (bx p.ctx m.key)=false):=λhy=>by
      obtain⟨v,b1,b2,b3,b4,_⟩:=k3 hy
      exact⟨v,by unfold dN;simp only[hy,if_true];rw[b1];rfl,b2,b3,b4⟩
     split
     ·rename_i hn
      split
      ·rename_i za
       refine ad2 h vC xC hw rk jh hn (λhy=>?_) ?_
       ·obtain⟨v,e,_,b,_⟩:=Jj hy;rw[e];exact b
       ·cases hy:m.yes
        ·have e:(dN m).be=rR:=by unfold dN;simp[hy]
         rw[e]
         show bP rR.aq (bx p.ctx m.key)=false
         rw[(k4 hy).2];rfl
        ·obtain⟨v,e,_,_,b⟩:=Jj hy;rw[e];exact b za
      ·exact xC
     ·split
      ·rename_i hy
       obtain⟨v,e,_,b,_⟩:=Jj hy
       exact ad3 h vC xC hk rk hy (by rw[e];exact b)
      ·exact xC
    ·exact xC
 ·exact vB
theorem Inv.frame {w x:aE} (h:Inv w) (U:x.ax=w.ax) (hc:x.calls=w.calls) (hn:x.seen=w.seen) (hg:cx x) (hr:∀m∈x.ar,eN w m):Inv x:=by
 obtain⟨xt,xs,xr,xc,xn⟩:=x
 dsimp only at U hc hn hr
 subst U hc hn
 have hx:Ext w ⟨xt,w.ax,xr,w.calls,w.seen⟩:=⟨λh=>h,λh=>h,λ_ _ _ _=>Int.le_refl _,λq hq=>⟨q,hq,lM.refl q⟩⟩
 exact⟨hg,h.fits,h.pj,h.rl,h.Bp,h.pk,h.bl,h.aD,h.p8,h.home,h.uniq,h.once,h.made,h.done,h.ctx,h.seen,λq hq=>(h.az q hq).ext hx,h.jD,h.fresh,λm hm=>(hr m hm).ext hx (hg.words m hm) λ_ _ hf=>.inr hf⟩
theorem Inv.Jk {w:aE} (h:Inv w) {i:Nat} (hi:i<w.calls.length) (hw:gQ (ab w.calls i)=true) {p:Call} (hp:Ec w (ab w.calls i) p) {l:List (List au)} (hl:(p.end_=0/\l=w.seen)\/(p.end_≠0/\l=w.seen.set p.an.toNat (dP p)))
 (hg:cx {w with calls:=w.calls.set i p,seen:=l}):Inv {w with calls:=w.calls.set i p,seen:=l}:=by
 have Jl:=aV hi
 obtain⟨s1,s2,s3,s4,s5,s6⟩:=hp.same
 have hx:Ext w {w with calls:=w.calls.set i p,seen:=l}:=⟨λh=>h,λh=>h,λ_ _ _ _=>Int.le_refl _,λq hq=>by
  obtain⟨k,hk,rfl⟩:=gq hq
  by_cases e:k=i
  ·subst e;exact⟨p,Xs hi,hp.same⟩
  ·exact⟨_,MF hk e,lM.refl _⟩⟩
 have bB:=ui h.aW Jl
 have j2:∀q∈w.calls.set i p,q=p\/q∈w.calls:=λq hq=>by
  rcases tD hq with rfl|⟨k,hk,_,rfl⟩
  ·exact .inl rfl
  ·exact .inr (aV hk)
 refine⟨hg,h.fits,h.pj,h.rl,h.Bp,h.pk,h.bl,h.aD,h.p8,h.home,h.uniq,h.once,λσ v hv=>?_,λq hq=>?_,λq hq=>?_,λk hk=>?_,λq hq=>?_,λj hj=>?_,λk hk kY=>?_,λm hm=>(h.words m hm).ext hx (hg.words m hm) λ_ _ hf=>.inr hf⟩
 ·obtain⟨q,hq,c1,c2,c3,c4,c5,c6⟩:=h.made σ v hv
  obtain⟨r,hr,t1,t2,t3,t4,t5,t6⟩:=hx.calls q hq
  exact⟨r,hr,t1.trans c1,t2.trans c2,t3.trans c3,by rw[t4];exact c4,t5.trans c5,t6.trans c6⟩
 ·rcases j2 q hq with rfl|hq
  ·exact hp.done
  ·exact h.done q hq
 ·rcases j2 q hq with rfl|hq
  ·show m6 w q.an.toNat q.ctx
   rw[s1,s6];exact h.ctx _ Jl
  ·exact h.ctx q hq
 ·show m6 w k (ab l k)
  rcases hl with⟨_,rfl⟩|⟨he,rfl⟩
  ·exact h.seen k hk
  ·rw[ld (by rw[h.aW.seen,s1];exact bB.1)]
   split
   ·rename_i e;rw[e];exact hp.jD he
   ·exact h.seen k hk
 ·rcases j2 q hq with rfl|hq
  ·exact hp.az.ext hx
  ·exact(h.az q hq).ext hx
 ·have tj:j<w.calls.length:=by have:j<(w.calls.set i p).length:=hj;rwa[List.length_set] at this
  have hec:∀k,(ab (w.calls.set i p) k).an=(ab w.calls k).an:=λk=>by
   rw[ld hi];split
   ·rename_i e;subst e;exact s1
   ·rfl
  have hex:∀k,(ab (w.calls.set i p) k).ctx=(ab w.calls k).ctx:=λk=>by
   rw[ld hi];split
   ·rename_i e;subst e;exact s6
   ·rfl
  have hn:mC {w with calls:=w.calls.set i p,seen:=l} j=if 0<=fF w.calls j (ab w.calls j).an then(ab w.calls (j+1+(fF w.calls j (ab w.calls j).an).toNat)).ctx else ab l (ab w.calls j).an.toNat:=by
   unfold mC
   dsimp only
   rw[hec,ZT hi s1,hex]
  rw[hn]
  show dP (ab (w.calls.set i p) j)=_
  rw[ld hi]
  split
  ·rename_i e;subst e
   rw[if_neg (by have:=Gm (l:=w.calls) (i:=j) (x:=(ab w.calls j).an) λk h1 h2=>IT h.aW hw h1 h2;omega)]
   rcases hl with⟨he,rfl⟩|⟨he,rfl⟩
   ·have hold:=h.jD j tj
    have e0:dP p=p.ctx:=by unfold dP;rw[if_pos he]
    have e1:dP (ab w.calls j)=(ab w.calls j).ctx:=by unfold dP;rw[if_pos (qp hw).1]
    rw[e0,s6,<-e1,hold]
    unfold mC
    rw[if_neg (by have:=Gm (l:=w.calls) (i:=j) (x:=(ab w.calls j).an) λk h1 h2=>IT h.aW hw h1 h2;omega)]
   ·rw[ld (by rw[h.aW.seen,s1];exact bB.1),if_pos (by rw[s1])]
  ·rename_i e
   have hold:=h.jD j tj
   rw[hold]
   unfold mC
   split
   ·rfl
   ·rename_i hnn
    rcases hl with⟨he,rfl⟩|⟨he,rfl⟩
    ·rfl
    ·rw[ld (by rw[h.aW.seen,s1];exact bB.1),if_neg]
     intro e2
     have hcj:=ui h.aW (aV tj)
     have e3:(ab w.calls j).an=(ab w.calls i).an:=by rw[s1] at e2;omega
     rcases Nat.lt_or_gt_of_ne e with bw|bw
     ·exact PE (by omega) bw hi e3.symm
     ·exact IT h.aW hw bw tj e3
 ·have Jm:∀q∈w.calls,q.an≠(k:Int):=λq hq e=>by
   obtain⟨r,hr,t1,_⟩:=hx.calls q hq
   exact kY r hr (t1.trans e)
  show ab l k=[]
  rcases hl with⟨_,rfl⟩|⟨he,rfl⟩
  ·exact h.fresh k hk Jm
  ·rw[ld (by rw[h.aW.seen,s1];exact bB.1),if_neg]
   ·exact h.fresh k hk Jm
   ·intro e;have:=Jm _ Jl;rw[s1] at e;omega
theorem Inv.begin {w:aE} (h:Inv w) {e:Ev} (hc:ff e.an=true) (hg:cx {w with calls:=w.calls++[jx w e]}):Inv {w with calls:=w.calls++[jx w e]}:=by
 have j2:=qt.1 hc
 have hx:Ext w {w with calls:=w.calls++[jx w e]}:=⟨λh=>h,λh=>h,λ_ _ _ _=>Int.le_refl _,λq hq=>⟨q,List.mem_append_left _ hq,lM.refl q⟩⟩
 have hm:∀q∈w.calls++[jx w e],q∈w.calls\/q=jx w e:=λq hq=>by
  rcases List.mem_append.1 hq with hq|hq
  ·exact .inl hq
  ·exact .inr (by simpa using hq)
 refine⟨hg,h.fits,h.pj,h.rl,h.Bp,h.pk,h.bl,h.aD,h.p8,h.home,h.uniq,h.once,λσ v hv=>?_,λq hq=>?_,λq hq=>?_,h.seen,λq hq=>?_,λj hj=>?_,λk hk kY=>h.fresh k hk λq hq=>kY q (List.mem_append_left _ hq),λm hm=>(h.words m hm).ext hx (hg.words m hm) λ_ _ hf=>.inr hf⟩
 ·obtain⟨q,hq,c⟩:=h.made σ v hv
  exact⟨q,List.mem_append_left _ hq,c⟩
 ·rcases hm q hq with hq|rfl
  ·exact h.done q hq
  ·exactλ_ e=>absurd rfl e
 ·rcases hm q hq with hq|rfl
  ·exact h.ctx q hq
  ·exact h.seen _ (by show e.an.toNat<2;omega)
 ·rcases hm q hq with hq|rfl
  ·exact(h.az q hq).ext hx
  ·refine⟨λa ha=>by simp[jx,wN] at ha,λa ha=>by simp[jx,wN] at ha,λ_ hl=>?_⟩
   have:(mE e).length=0:=by have:0=(mE e).length:=hl;omega
   simp[mE] at this
 ·show dP (ab (w.calls++[jx w e]) j)=mC {w with calls:=w.calls++[jx w e]} j
  unfold mC
  dsimp only
  have tj:j<w.calls.length+1:=by have:j<(w.calls++[jx w e]).length:=hj;simpa using this
  rcases Nat.lt_or_ge j w.calls.length with bw|n6
  ·rw[MO bw,h.jD j bw,aa0 bw]
   unfold mC
   by_cases hn:0<=fF w.calls j (ab w.calls j).an
   ·rw[if_pos hn,if_pos hn,if_pos hn,MO (CJ hn).1]
   ·rw[if_neg hn,if_neg hn]
    by_cases uj:(jx w e).an=(ab w.calls j).an
    ·rw[if_pos uj,if_pos (Int.natCast_nonneg _),Int.toNat_natCast,show j+1+(w.calls.length-(j+1))=w.calls.length by omega,NC]
     show ab w.seen _=ab w.seen e.an.toNat
     rw[<-uj];rfl
    ·rw[if_neg uj,if_neg (by omega)]
  ·have:j=w.calls.length:=by omega
   subst this
   rw[NC,if_neg]
   ·show dP (jx w e)=ab w.seen e.an.toNat
    rfl
   ·have:=Gm (l:=w.calls++[jx w e]) (i:=w.calls.length) (x:=(jx w e).an) λk h1 h2=>by
     rw[List.length_append,List.length_singleton] at h2;omega
    omega
theorem Inv.answer {w:aE} (h:Inv w) {m:aC} (g:eN w m):Inv (mb w m):=by
 have hg:=Q8 h.aW m
 unfold mb at hg⊢
 dsimp only at hg⊢
 split
 ·exact h
 ·rename_i hn
  rw[if_neg hn] at hg
  obtain⟨h1,h2,h3⟩:=qu (l:=w.calls) (an:=m.to-10) (by omega)
  have hc:=ad6 h (aV h1) h3 g
  have mL:∀p:Call,dw p w.time->¬0<p.end_->p.end_=0:=λp hp hn=>by
   apply Classical.byContradiction
   intro e
   have:=(hp.ended e).2.1
   have:=hp.bD
   omega
  split
  ·rename_i he
   rw[if_pos he] at hg
   have e1:(m.to-10).toNat=(dm (ab w.calls (cq w.calls (m.to-10)).toNat) m w.time).an.toNat:=by rw[hc.same.1,h2]
   rw[e1] at hg⊢
   exact h.Jk h1 h3 hc (.inr ⟨by omega,rfl⟩) hg
  ·rename_i he
   rw[if_neg he] at hg
   exact h.Jk h1 h3 hc (.inl ⟨mL _ (y9 (h.aW.call h1)) he,rfl⟩) hg
theorem RC {w:aE} (h:Inv w) {i:Nat} (hi:i<4):oI w i (o5 (sv w i)) none:=
 ⟨Nr (h.dj hi),rfl,rfl,λv hv=>hv,λv hv=>.inr hv,λv hv=>.inl hv,λv hv=>.inl hv,λv hv _=>hv,λd hd=>.inl hd,λd hd=>.inl hd,λd hd=>.inl hd,λv e=>by cases e⟩
theorem RD {w:aE} (h:Inv w) {i:Nat} (hi:i<4):oI w i (ou (sv w i)) none:=
 ⟨Ns (h.dj hi),rfl,rfl,λv hv=>hv,λv hv=>.inr hv,λv hv=>.inl hv,λv hv=>.inl hv,λv hv _=>hv,λd hd=>absurd hd (by simp[ou]),λd hd=>.inl hd,λd hd=>.inl hd,λv e=>by cases e⟩
end Go.Proofs.YtjepcfpkclegdaaGreat
