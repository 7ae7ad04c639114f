/- Part 31: contracts of functions, plain facts. -/
import Derived.Test.YtdanidpleofjgaaGreatP33
import Derived.Test.YtdanidpleofjgaaGreatP38
set_option linter.all false
set_option maxRecDepth 100000
set_option maxHeartbeats 4000000
namespace Go.Proofs.YtdanidpleofjgaaGreat
open Go Go.RowKit Tryz
attribute [local irreducible] wpList Code.wp Ok
def SB {q:Call} {k:Nat} (h:k<q.keys.length) (hg:cB q (ab q.keys k)<0):qd q k++[wS (ab q.keys k)]=qd q (k+1):=by
 unfold qd;rw[nu h (by simpa using hg),List.map_append];rfl
def iD (w:aI) (e:Ev):List az:=if e.kind=5\/e.hO=0 then w.au.take e.word.toNat++w.au.drop (e.word.toNat+1) else w.au
structure Inv (w:aI):Prop where
 bD:cy w
 fits:∀i,i<4->∀k,k<3->ma (ab (sv w i).aF k) (ab (sv w (cv i)).aF k)=true
 qe:∀i,i<4->∀v∈(sv w i).an,behind (sv w i) (sv w (cv i)) (vk v)->v∈(sv w (cv i)).an
 rl:∀i,i<4->∀v∈(sv w i).waits,behind (sv w i) (sv w (cv i)) (vk v)->v∈(sv w (cv i)).an\/v∈(sv w (cv i)).waits
 BY:∀i,i<4->∀v∈(sv w i).an,∀d∈v.aR,∃u,u.bh=d/\cF w (i/2) u
 rm:∀i,i<4->∀v∈(sv w i).waits,cF w (1-i/2) v
 bj:∀i,i<4->∀d∈(sv w i).bj,∃u,u.bh=d/\cF w (i/2) u
 aD:∀i,i<4->∀d∈(sv w i).aD,bP d.ar.site=((i/2:Nat):Int)
 rn:∀i,i<4->∀v∈(sv w i).an,bP v.ar.site=((i/2:Nat):Int)->¬behind (sv w i) (sv w (cv i)) (vk v)->v.bh∈(sv w i).aD\/mI w (1-i/2) v
 home:∀σ v,cF w σ v->bP v.ar.site=v.aq/\cF w v.aq.toNat v
 uniq:∀σ τ u v,cF w σ u->cF w τ v->u.bh=v.bh->u=v
 once:∀σ τ u v,cF w σ u->cF w τ v->u.aq=v.aq->u.call=v.call->u=v
 made:∀σ v,cF w σ v->∃q∈w.calls,q.aq=v.aq/\q.num=v.call/\q.kind=1/\ab q.keys 0=v.key/\q.val=v.val/\q.ctx=v.aR
 done:∀q∈w.calls,q.kind=1->q.end_≠0->∃v,cF w q.aq.toNat v/\v.aq=q.aq/\v.call=q.num/\v.key=ab q.keys 0/\v.ar=q.ar
 ctx:∀q∈w.calls,l9 w q.aq.toNat q.ctx
 seen:∀k,k<2->l9 w k (ab w.seen k)
 aA:∀q∈w.calls,mg w q
 kd:∀i,i<w.calls.length->gx (ab w.calls i)=uV w i
 fresh:∀k:Nat,k<2->(∀q∈w.calls,q.aq≠(k:Int))->ab w.seen k=[]
 words:∀m∈w.au,eU w m
def Inv.gT {w:aI} (h:Inv w) {i:Nat} (hi:i<4):bH (sv w i):=(h.bD.site i hi).2
def Inv.site {w:aI} (h:Inv w) {i:Nat} (hi:i<4):(sv w i).site=(i:Int):=(h.bD.site i hi).1
def Inv.owner {w:aI} (h:Inv w) {i:Nat} (hi:i<4) {v:aE} (hv:cF w (i/2) v) (U:dU (sv w i) v.key=1):v∈(sv w i).an:=by
 rcases hv.cases with hv|hv
 .exact hv
 have hb:behind (sv w (cv i)) (sv w (cv (cv i))) (vk v):=by
  rw[j4];exact QG (h.fits i hi _ (uZ (jw (h.gT (pQ hi)) (.inl hv)))) U
 have:=h.qe _ (pQ hi) v hv hb;rwa[j4] at this
def mI.eO {w:aI} (h:Inv w) {σ:Nat} {v:aE} (hc:mI w σ v):∃τ,cF w τ v:=by
 obtain⟨i,hi,e,hv|hv⟩:=hc
 .exact⟨_,i,hi,e,hv⟩
 exact⟨_,h.rm i hi v hv⟩
structure nG (w:aI) (i:Nat) (s:Server) (n:Option aE):Prop where
 bD:bH s
 site:s.site=(sv w i).site
 aF:s.aF=(sv w i).aF
 an:∀v∈(sv w i).an,v∈s.an
 cont:∀v∈(sv w i).waits,v∈s.an\/v∈s.waits
 BZ:∀v∈s.an,v∈(sv w i).an\/(dU (sv w i) v.key=1/\(∀d∈v.aR,∃u,u.bh=d/\cF w (i/2) u)/\(cF w (1-i/2) v\/n=some v))
 Jy:∀v∈s.waits,v∈(sv w i).waits\/(dU (sv w i) v.key=1/\cF w (1-i/2) v)
 adj:∀v∈(sv w i).waits,dU (sv w i) v.key≠1->v∈s.waits
 bj:∀d∈s.bj,d∈(sv w i).bj\/∃u,u.bh=d/\cF w (i/2) u
 aD:∀d∈s.aD,d∈(sv w i).aD\/∃v,n=some v/\d=v.bh
 SC:∀d∈(sv w i).aD,d∈s.aD\/((ab (sv w i).aF (cW d.key).toNat).dy=1/\∀v∈(sv w i).an,v.bh=d->mI w (1-i/2) v)
 new:∀v,n=some v->v∈s.an/\v.bh∈s.aD/\dU (sv w i) v.key=1/\bP v.ar.site=v.aq/\v.aq=((i/2:Nat):Int)/\(∀σ u,cF w σ u->u.bh≠v.bh/\¬(u.aq=v.aq/\u.call=v.call))/\
  ∃q∈w.calls,q.aq=v.aq/\q.num=v.call/\q.kind=1/\ab q.keys 0=v.key/\q.val=v.val/\q.ctx=v.aR
def nG.ext {w:aI} (h:Inv w) {i:Nat} (hi:i<4) {s:Server} {n:Option aE} (g:nG w i s n):Ext w (dL w i s) where
 eO:=λ{σ v} ⟨j,hj,e,hv⟩=>⟨j,hj,e,by
  rw[vh h.bD hi];split
  .rename_i ej;subst ej;exact g.an v hv
  exact hv⟩
 cont:=λ{σ v} ⟨j,hj,e,hv⟩=>⟨j,hj,e,by
  rw[vh h.bD hi];split
  .rename_i ej;subst ej;rcases hv with hv|hv
   .exact .inl (g.an v hv)
   exact g.cont v hv
  exact hv⟩
 ep:=λj hj k hk=>by
  unfold Go.Proofs.YtdanidpleofjgaaGreat.ep;rw[vh h.bD hi];split
  .rename_i ej;subst ej;rw[g.aF];exact Int.le_refl _
  exact Int.le_refl _
 calls:=λq hq=>⟨q,hq,kQ.refl q⟩
def nG.back {w:aI} (h:Inv w) {i:Nat} (hi:i<4) {s:Server} {n:Option aE} (g:nG w i s n) {σ:Nat} {v:aE} (hv:cF (dL w i s) σ v):(∃τ,cF w τ v)\/n=some v:=by
 obtain⟨j,hj,e,hv⟩:=hv;rw[vh h.bD hi] at hv;split at hv
 .rename_i ej;subst ej;rcases g.BZ v hv with h1|⟨_,_,h1|h1⟩
  .exact .inl ⟨_,cF.here hj h1⟩
  .exact .inl ⟨_,h1⟩
  exact .inr h1
 exact .inl ⟨_,j,hj,e,hv⟩
def nG.inv {w:aI} (h:Inv w) {i:Nat} (hi:i<4) {s:Server} {n:Option aE} (g:nG w i s n):Inv (dL w i s):=by
 have hx:=g.ext h hi;have jM:∀j,(sv (dL w i s) j).aF=(sv w j).aF:=λj=>by
  rw[vh h.bD hi];split
  .rename_i e;subst e;exact g.aF
  rfl
 have hb:∀j k,behind (sv (dL w i s) j) (sv (dL w i s) (cv j)) k↔behind (sv w j) (sv w (cv j)) k:=λj k=>Yh (jM j) (jM (cv j));have dO:∀{v:aE},ef v=true->dU (sv w i) v.key=1->¬behind (sv w i) (sv w (cv i)) (vk v):=λhv be=>QF (h.fits i hi _ (uZ hv)) be;have Jz:cv i≠i:=Hq i;have jq:=pQ hi;have aZ:∀j,j≠i->sv (dL w i s) j=sv w j:=λj hj=>zu h.bD hi s hj;have eT:sv (dL w i s) i=s:=nD h.bD hi s;have hVs:∀{v},v∈(sv w i).an->v∈(sv (dL w i s) i).an:=λhv=>by rw[eT];exact g.an _ hv
 have hCs:∀{v},v∈(sv w i).an\/v∈(sv w i).waits->v∈(sv (dL w i s) i).an\/v∈(sv (dL w i s) i).waits:=λhv=>by
  rw[eT];rcases hv with hv|hv
  .exact .inl (g.an _ hv)
  exact g.cont _ hv
 have adm:∀j v,j<4->v∈(sv w j).an->v∈(sv (dL w i s) j).an:=λj v hj hv=>by
  by_cases e:j=i
  .subst e;exact hVs hv
  rw[aZ j e];exact hv
 have adn:∀j v,j<4->(v∈(sv w j).an\/v∈(sv w j).waits)->(v∈(sv (dL w i s) j).an\/v∈(sv (dL w i s) j).waits):=λj v hj hv=>by
  by_cases e:j=i
  .subst e;exact hCs hv
  rw[aZ j e];exact hv
 have ado:∀v,n=some v->cF (dL w i s) v.aq.toNat v:=λv e=>by
  have:=g.new v e;refine⟨i,hi,by omega,?_⟩;rw[eT];exact this.1
 refine⟨Rm h.bD hi g.bD g.site,?_,?_,?_,?_,?_,?_,?_,?_,?_,?_,?_,?_,?_,?_,?_,?_,h.kd,h.fresh,?_⟩
 .intro j hj k hk;rw[jM,jM];exact h.fits j hj k hk
 .intro j hj v hv po;rw[hb] at po;apply adm _ _ (pQ hj);by_cases e:j=i
  .subst e;rw[eT] at hv;rcases g.BZ v hv with h1|⟨h1,_⟩
   .exact h.qe j hj v h1 po
   exact absurd po (dO (gy g.bD.an v hv) h1)
  rw[aZ j e] at hv;exact h.qe j hj v hv po
 .intro j hj v hv po;rw[hb] at po;apply adn _ _ (pQ hj);by_cases e:j=i
  .subst e;rw[eT] at hv;rcases g.Jy v hv with h1|⟨h1,_⟩
   .exact h.rl j hj v h1 po
   exact absurd po (dO (gy g.bD.waits v hv) h1)
  rw[aZ j e] at hv;exact h.rl j hj v hv po
 .intro j hj v hv d hd;have key:v∈(sv w j).an->∃u,u.bh=d/\cF (dL w i s) (j/2) u:=λhv=>let⟨u,e1,e2⟩:=h.BY j hj v hv d hd;⟨u,e1,hx.eO e2⟩;by_cases e:j=i
  .subst e;rw[eT] at hv;rcases g.BZ v hv with h1|⟨_,h1,_⟩
   .exact key h1
   obtain⟨u,e1,e2⟩:=h1 d hd;exact⟨u,e1,hx.eO e2⟩
  rw[aZ j e] at hv;exact key hv
 .intro j hj v hv;by_cases e:j=i
  .subst e;rw[eT] at hv;rcases g.Jy v hv with h1|⟨_,h1⟩
   .exact hx.eO (h.rm j hj v h1)
   exact hx.eO h1
  rw[aZ j e] at hv;exact hx.eO (h.rm j hj v hv)
 .intro j hj d hd;by_cases e:j=i
  .subst e;rw[eT] at hd;rcases g.bj d hd with h1|⟨u,e1,e2⟩
   .obtain⟨u,e1,e2⟩:=h.bj j hj d h1;exact⟨u,e1,hx.eO e2⟩
   exact⟨u,e1,hx.eO e2⟩
  rw[aZ j e] at hd;obtain⟨u,e1,e2⟩:=h.bj j hj d hd;exact⟨u,e1,hx.eO e2⟩
 .intro j hj d hd;by_cases e:j=i
  .subst e;rw[eT] at hd;rcases g.aD d hd with h1|⟨v,e1,rfl⟩
   .exact h.aD j hj d h1
   obtain⟨_,_,_,a1,a2,_⟩:=g.new v e1;show bP v.ar.site=_;rw[a1,a2]
  rw[aZ j e] at hd;exact h.aD j hj d hd
 .intro j hj v hv jk po;rw[hb] at po;by_cases e:j=i
  .subst e;rw[eT] at hv⊢;rcases g.BZ v hv with h1|⟨_,_,h1|h1⟩
   .rcases h.rn j hj v h1 jk po with h2|h2
    .rcases g.SC _ h2 with h3|⟨_,h3⟩
     .exact .inl h3
     exact .inr (hx.cont (h3 v h1 rfl))
    exact .inr (hx.cont h2)
   .exact .inr (hx.eO h1).cont
   exact .inl (g.new v h1).2.1
  rw[aZ j e] at hv⊢;rcases h.rn j hj v hv jk po with h2|h2
  .exact .inl h2
  exact .inr (hx.cont h2)
 .intro σ v hv;rcases g.back h hi hv with⟨τ,h1⟩|h1
  .have:=h.home τ v h1;exact⟨this.1,hx.eO this.2⟩
  exact⟨(g.new v h1).2.2.2.1,ado v h1⟩
 .intro σ τ u v hu hv hd;rcases g.back h hi hu with⟨_,h1⟩|h1<;>rcases g.back h hi hv with⟨_,h2⟩|h2
  .exact h.uniq _ _ u v h1 h2 hd
  .exact absurd hd ((g.new v h2).2.2.2.2.2.1 _ u h1).1
  .exact absurd hd.symm ((g.new u h1).2.2.2.2.2.1 _ v h2).1
  rw[h1] at h2;exact Option.some.inj h2
 .intro σ τ u v hu hv hc hn;rcases g.back h hi hu with⟨_,h1⟩|h1<;>rcases g.back h hi hv with⟨_,h2⟩|h2
  .exact h.once _ _ u v h1 h2 hc hn
  .exact absurd ⟨hc,hn⟩ ((g.new v h2).2.2.2.2.2.1 _ u h1).2
  .exact absurd ⟨hc.symm,hn.symm⟩ ((g.new u h1).2.2.2.2.2.1 _ v h2).2
  rw[h1] at h2;exact Option.some.inj h2
 .intro σ v hv;rcases g.back h hi hv with⟨_,h1⟩|h1
  .exact h.made _ v h1
  exact(g.new v h1).2.2.2.2.2.2
 .intro q hq h1 h2;obtain⟨v,a,b⟩:=h.done q hq h1 h2;exact⟨v,hx.eO a,b⟩
 .exactλq hq=>(h.ctx q hq).ext hx
 .exactλk hk=>(h.seen k hk).ext hx
 .exactλq hq=>(h.aA q hq).ext hx
 intro m hm;refine(h.words m hm).ext hx (h.bD.words m hm) λe9 hl hf=>.inr ?_;by_cases e:m.aU.toNat=i
 .rw[e] at hf⊢;rw[eT];obtain⟨f1,f2,f3,f4⟩:=hf;have amE:=qB (h.bD.words m hm);have be:∀key,cW key=m.slot->dU (sv w i) key=1->False:=λkey ek hk=>by
   unfold dU at hk;rw[ek,f1] at hk;cases hk
  refine⟨by rw[g.aF];exact f1,λv=>(f2 v).trans ⟨λ⟨a,b⟩=>⟨g.an v a,b⟩,λ⟨a,b⟩=>⟨?_,b⟩⟩,λv=>(f3 v).trans ⟨λ⟨a,b⟩=>⟨g.adj v a λhk=>be _ b hk,b⟩,λ⟨a,b⟩=>⟨?_,b⟩⟩,λd=>(f4 d).trans ⟨λ⟨a,b⟩=>⟨?_,b⟩,λ⟨a,b⟩=>⟨?_,b⟩⟩⟩
  .rcases g.BZ v a with h1|⟨h1,_⟩
   .exact h1
   exact(be _ b h1).elim
  .rcases g.Jy v a with h1|⟨h1,_⟩
   .exact h1
   exact(be _ b h1).elim
  .rcases g.SC d a with h1|⟨h1,_⟩
   .exact h1
   exact(be _ b h1).elim
  rcases g.aD d a with h1|⟨v,e1,rfl⟩
  .exact h1
  exact(be _ b (g.new v e1).2.2.1).elim
 rw[aZ _ e];exact hf
structure tZ (w:aI) (i:Nat) (s:Server) (k:Nat):Prop where
 bD:bH s
 site:s.site=(sv w i).site
 aF:∀j,j<3->j≠k->ab s.aF j=ab (sv w i).aF j
 an:∀v,ef v=true->vk v≠k->(v∈s.an↔v∈(sv w i).an)
 waits:∀v,ef v=true->vk v≠k->(v∈s.waits↔v∈(sv w i).waits)
 ES:∀d:ao,(cW d.key).toNat≠k->(d∈s.aD↔d∈(sv w i).aD)
 bj:∀d∈s.bj,d∈(sv w i).bj
 fits:ma (ab s.aF k) (ab (sv w (cv i)).aF k)=true
 ep:(ab (sv w i).aF k).bf<=(ab s.aF k).bf
 back:∀v∈s.an,vk v=k->cF w (i/2) v
 adp:∀v∈s.waits,vk v=k->cF w (1-i/2) v
 eO:∀v∈(sv w i).an,vk v=k->v∈s.an\/v∈(sv w (cv i)).an
 cont:∀v∈(sv w i).waits,vk v=k->(v∈s.an\/v∈s.waits)\/(v∈(sv w (cv i)).an\/v∈(sv w (cv i)).waits)
 adq:behind s (sv w (cv i)) k->∀v∈s.an,vk v=k->v∈(sv w (cv i)).an
 adr:behind (sv w (cv i)) s k->∀v∈(sv w (cv i)).an,vk v=k->v∈s.an
 ads:behind s (sv w (cv i)) k->∀v∈s.waits,vk v=k->v∈(sv w (cv i)).an\/v∈(sv w (cv i)).waits
 adt:behind (sv w (cv i)) s k->∀v∈(sv w (cv i)).waits,vk v=k->v∈s.an\/v∈s.waits
 aD:∀d∈s.aD,(cW d.key).toNat=k->bP d.ar.site=((i/2:Nat):Int)
 adu:¬behind s (sv w (cv i)) k->∀v∈s.an,vk v=k->bP v.ar.site=((i/2:Nat):Int)->v.bh∈s.aD\/mI w (1-i/2) v
 adv:¬behind (sv w (cv i)) s k->∀v∈(sv w (cv i)).an,vk v=k->bP v.ar.site=((i/2:Nat):Int)->v.bh∈(sv w (cv i)).aD\/mI w (1-i/2) v
 hold:(ab (sv w i).aF k).dy=2->(ab (sv w i).aF k).bf<=(ab (sv w (cv i)).aF k).bf
def tZ.ext {w:aI} (h:Inv w) {i:Nat} (hi:i<4) {s:Server} {k:Nat} (g:tZ w i s k):Ext w (dL w i s) where
 eO:=λ{σ v} ⟨j,hj,e,hv⟩=>by
  by_cases ej:j=i
  .subst ej;have eD:=jw (h.gT hj) (.inl hv);by_cases ek:vk v=k
   .rcases g.eO v hv ek with h1|h1
    .exact⟨j,hj,e,by rw[nD h.bD hj];exact h1⟩
    exact⟨cv j,pQ hj,by rw[pb];exact e,by rw[Rl h.bD hj];exact h1⟩
   exact⟨j,hj,e,by rw[nD h.bD hj];exact(g.an v eD ek).2 hv⟩
  exact⟨j,hj,e,by rw[zu h.bD hi s ej];exact hv⟩
 cont:=λ{σ v} ⟨j,hj,e,hv⟩=>by
  by_cases ej:j=i
  .subst ej;have eD:=jw (h.gT hj) hv;by_cases ek:vk v=k
   .have key:(v∈s.an\/v∈s.waits)\/(v∈(sv w (cv j)).an\/v∈(sv w (cv j)).waits):=by
     rcases hv with hv|hv
     .rcases g.eO v hv ek with h1|h1
      .exact .inl (.inl h1)
      exact .inr (.inl h1)
     exact g.cont v hv ek
    rcases key with h1|h1
    .exact⟨j,hj,e,by rw[nD h.bD hj];exact h1⟩
    exact⟨cv j,pQ hj,by rw[pb];exact e,by rw[Rl h.bD hj];exact h1⟩
   refine⟨j,hj,e,?_⟩;rw[nD h.bD hj];rcases hv with hv|hv
   .exact .inl ((g.an v eD ek).2 hv)
   exact .inr ((g.waits v eD ek).2 hv)
  exact⟨j,hj,e,by rw[zu h.bD hi s ej];exact hv⟩
 ep:=λj hj x hx=>by
  unfold Go.Proofs.YtdanidpleofjgaaGreat.ep;rw[vh h.bD hi];split
  .rename_i ej;subst ej;by_cases e:x=k
   .subst e;exact g.ep
   rw[g.aF x hx e];exact Int.le_refl _
  exact Int.le_refl _
 calls:=λq hq=>⟨q,hq,kQ.refl q⟩
def tZ.adw {w:aI} (h:Inv w) {i:Nat} (hi:i<4) {s:Server} {k:Nat} (g:tZ w i s k) {σ:Nat} {v:aE} (hv:cF (dL w i s) σ v):cF w σ v:=by
 obtain⟨j,hj,e,hv⟩:=hv;by_cases ej:j=i
 .subst ej;rw[nD h.bD hj] at hv;have eD:=jw g.bD (.inl hv);by_cases ek:vk v=k
  .rw[<-e];exact g.back v hv ek
  exact⟨j,hj,e,(g.an v eD ek).1 hv⟩
 rw[zu h.bD hi s ej] at hv;exact⟨j,hj,e,hv⟩
def SD {w:aI} (h:Inv w) {σ:Nat} {v:aE} (hv:cF w σ v) {d:ao} (hd:d∈v.aR):∃u,u.bh=d/\cF w σ u:=by
 obtain⟨i,hi,rfl,hv⟩:=hv;exact h.BY i hi v hv d hd
def tZ.inv {w:aI} (h:Inv w) {i:Nat} (hi:i<4) {s:Server} {k:Nat} (hk:k<3) (g:tZ w i s k):Inv (dL w i s):=by
 have hx:=g.ext h hi;have tl:=λ{σ v}=>g.adw h hi (σ:=σ) (v:=v);have Jz:cv i≠i:=Hq i;have jq:=pQ hi;have aZ:∀j,j≠i->sv (dL w i s) j=sv w j:=λj hj=>zu h.bD hi s hj;have eT:sv (dL w i s) i=s:=nD h.bD hi s;have be:sv (dL w i s) (cv i)=sv w (cv i):=aZ _ Jz;have JA:∀x,x<3->x≠k->(behind s (sv w (cv i)) x↔behind (sv w i) (sv w (cv i)) x):=λx ua qX=>by unfold behind;rw[g.aF x ua qX]
 have JB:∀x,x<3->x≠k->(behind (sv w (cv i)) s x↔behind (sv w (cv i)) (sv w i) x):=λx ua qX=>by unfold behind;rw[g.aF x ua qX]
 have ET:∀j,j<4->j=i\/j=cv i\/(j≠i/\cv j≠i):=λj hj=>by
  by_cases e:j=i
  .exact .inl e
  by_cases e2:cv j=i
  .exact .inr (.inl (by rw[<-e2,j4]))
  exact .inr (.inr ⟨e,e2⟩)
 refine⟨Rm h.bD hi g.bD g.site,?_,?_,?_,?_,?_,?_,?_,?_,?_,?_,?_,?_,?_,?_,?_,?_,h.kd,h.fresh,?_⟩
 .intro j hj x ua;rcases ET j hj with rfl|rfl|⟨e1,e2⟩
  .rw[eT,be];by_cases e:x=k
   .subst e;exact g.fits
   rw[g.aF x ua e];exact h.fits j hj x ua
  .rw[j4,eT,be];have SE:∀a b,ma a b=true->ma b a=true:=λa b Hd=>by
    unfold ma at*;simp only[Bool.or_eq_true] at*;rcases Hd with((h1|h1)|h1)|h1
    .exact .inl (.inl (.inr h1))
    .exact .inl (.inl (.inl h1))
    .exact .inr h1
    exact .inl (.inr h1)
   by_cases e:x=k
   .subst e;exact SE _ _ g.fits
   rw[g.aF x ua e];exact SE _ _ (h.fits i hi x ua)
  rw[aZ j e1,aZ _ e2];exact h.fits j hj x ua
 .intro j hj v hv hb;rcases ET j hj with rfl|rfl|⟨e1,e2⟩
  .rw[eT] at hv hb;rw[be] at hb⊢;have eD:=jw g.bD (.inl hv);by_cases e:vk v=k
   .exact g.adq (e▸hb) v hv e
   exact h.qe j hj v ((g.an v eD e).1 hv) ((JA _ (uZ eD) e).1 hb)
  .rw[j4,eT,be] at hb;rw[be] at hv;rw[j4,eT];have eD:=jw (h.gT jq) (.inl hv);by_cases e:vk v=k
   .exact g.adr (e▸hb) v hv e
   have:=h.qe _ jq v hv (by rw[j4];exact(JB _ (uZ eD) e).1 hb);rw[j4] at this;exact(g.an v eD e).2 this
  rw[aZ j e1] at hv hb;rw[aZ _ e2] at hb⊢;exact h.qe j hj v hv hb
 .intro j hj v hv hb;rcases ET j hj with rfl|rfl|⟨e1,e2⟩
  .rw[eT] at hv hb;rw[be] at hb⊢;have eD:=jw g.bD (.inr hv);by_cases e:vk v=k
   .exact g.ads (e▸hb) v hv e
   exact h.rl j hj v ((g.waits v eD e).1 hv) ((JA _ (uZ eD) e).1 hb)
  .rw[j4,eT,be] at hb;rw[be] at hv;rw[j4,eT];have eD:=jw (h.gT jq) (.inr hv);by_cases e:vk v=k
   .exact g.adt (e▸hb) v hv e
   have:=h.rl _ jq v hv (by rw[j4];exact(JB _ (uZ eD) e).1 hb);rw[j4] at this;rcases this with this|this
   .exact .inl ((g.an v eD e).2 this)
   exact .inr ((g.waits v eD e).2 this)
  rw[aZ j e1] at hv hb;rw[aZ _ e2] at hb⊢;exact h.rl j hj v hv hb
 .intro j hj v hv d hd;obtain⟨u,e1,e2⟩:=SD h (tl (cF.here hj hv)) hd;exact⟨u,e1,hx.eO e2⟩
 .intro j hj v hv;by_cases e:j=i
  .subst e;rw[eT] at hv;have eD:=jw g.bD (.inr hv);by_cases e:vk v=k
   .exact hx.eO (g.adp v hv e)
   exact hx.eO (h.rm j hj v ((g.waits v eD e).1 hv))
  rw[aZ j e] at hv;exact hx.eO (h.rm j hj v hv)
 .intro j hj d hd;have key:∀d∈(sv w j).bj,∃u,u.bh=d/\cF (dL w i s) (j/2) u:=λd hd=>let⟨u,e1,e2⟩:=h.bj j hj d hd;⟨u,e1,hx.eO e2⟩;by_cases e:j=i
  .subst e;rw[eT] at hd;exact key d (g.bj d hd)
  rw[aZ j e] at hd;exact key d hd
 .intro j hj d hd;by_cases e:j=i
  .subst e;rw[eT] at hd;by_cases e:(cW d.key).toNat=k
   .exact g.aD d hd e
   exact h.aD j hj d ((g.ES d e).1 hd)
  rw[aZ j e] at hd;exact h.aD j hj d hd
 .intro j hj v hv U hb;rcases ET j hj with rfl|rfl|⟨e1,e2⟩
  .rw[eT] at hv hb⊢;rw[be] at hb;have eD:=jw g.bD (.inl hv);by_cases e:vk v=k
   .rcases g.adu (e▸hb) v hv e U with h1|h1
    .exact .inl h1
    exact .inr (hx.cont h1)
   rcases h.rn j hj v ((g.an v eD e).1 hv) U (λh1=>hb ((JA _ (uZ eD) e).2 h1)) with h1|h1
   .exact .inl ((g.ES v.bh e).2 h1)
   exact .inr (hx.cont h1)
  .rw[j4,eT,be] at hb;rw[be] at hv⊢;rw[pb] at U⊢;have eD:=jw (h.gT jq) (.inl hv);by_cases e:vk v=k
   .rcases g.adv (e▸hb) v hv e U with h1|h1
    .exact .inl h1
    exact .inr (hx.cont h1)
   rcases h.rn _ jq v hv (by rw[pb];exact U) (λh1=>hb ((JB _ (uZ eD) e).2 (by rwa[j4] at h1))) with h1|h1
   .exact .inl h1
   rw[pb] at h1;exact .inr (hx.cont h1)
  rw[aZ j e1] at hv hb⊢;rw[aZ _ e2] at hb;rcases h.rn j hj v hv U hb with h1|h1
  .exact .inl h1
  exact .inr (hx.cont h1)
 .intro σ v hv;have:=h.home σ v (tl hv);exact⟨this.1,hx.eO this.2⟩
 .exactλσ τ u v hu hv hd=>h.uniq _ _ u v (tl hu) (tl hv) hd
 .exactλσ τ u v hu hv hd=>h.once _ _ u v (tl hu) (tl hv) hd
 .exactλσ v hv=>h.made _ v (tl hv)
 .intro q hq h1 h2;obtain⟨v,a,b⟩:=h.done q hq h1 h2;exact⟨v,hx.eO a,b⟩
 .exactλq hq=>(h.ctx q hq).ext hx
 .exactλk hk=>(h.seen k hk).ext hx
 .exactλq hq=>(h.aA q hq).ext hx
 intro m hm;refine(h.words m hm).ext hx (h.bD.words m hm) λe9 hl hf=>?_;have jM:=qB (h.bD.words m hm);by_cases e:m.aU.toNat=i
 .rw[e] at hf⊢;rw[eT];obtain⟨f1,f2,f3,f4⟩:=hf;by_cases e2:m.slot.toNat=k
  .rw[e2] at f1⊢;left;unfold Go.Proofs.YtdanidpleofjgaaGreat.ep;rw[be];have:=g.hold (by rw[f1]);rw[f1] at this;exact this
  right;have fO:∀{key:Int},cW key=m.slot->(cW key).toNat≠k:=λek=>by rw[ek];exact e2
  refine⟨by rw[g.aF _ om e2];exact f1,λv=>?_,λv=>?_,λd=>?_⟩
  .rw[f2 v];constructor
   .rintro⟨a,b⟩;exact⟨(g.an v (jw (h.gT hi) (.inl a)) (fO b)).2 a,b⟩
   rintro⟨a,b⟩;exact⟨(g.an v (jw g.bD (.inl a)) (fO b)).1 a,b⟩
  .rw[f3 v];constructor
   .rintro⟨a,b⟩;exact⟨(g.waits v (jw (h.gT hi) (.inr a)) (fO b)).2 a,b⟩
   rintro⟨a,b⟩;exact⟨(g.waits v (jw g.bD (.inr a)) (fO b)).1 a,b⟩
  rw[f4 d];constructor
  .rintro⟨a,b⟩;exact⟨(g.ES d (fO b)).2 a,b⟩
  rintro⟨a,b⟩;exact⟨(g.ES d (fO b)).1 a,b⟩
 right;rw[aZ _ e];exact hf
def Ext.trans {w x y:aI} (h:Ext w x) (h':Ext x y):Ext w y:=
 ⟨λhv=>h'.eO (h.eO hv),λhv=>h'.cont (h.cont hv),λi hi k hk=>Int.le_trans (h.ep i hi k hk) (h'.ep i hi k hk),λq hq=>by
  obtain⟨p,hp,s⟩:=h.calls q hq;obtain⟨r,hr,s'⟩:=h'.calls p hp;exact⟨r,hr,s.trans s'⟩⟩
def adx {w:aI} (h:Inv w) {i:Nat} (hi:i<4) {d:ao} (hd:l6 (sv w i) d=true):∃u,u.bh=d/\cF w (i/2) u:=by
 unfold l6 at hd;rw[Bool.or_eq_true,decide_eq_true_eq,decide_eq_true_eq] at hd;rcases hd with hd|hd
 .obtain⟨x,hx,e⟩:=wZ.1 hd;exact⟨x,e,cF.here hi hx⟩
 exact h.bj i hi d (w5.1 hd)
def ady {w:aI} (h:Inv w) {i:Nat} (hi:i<4) (hp:0<=eN (sv w i)):nG w i (mK (sv w i) (eN (sv w i)).toNat) none:=by
 obtain⟨hl,_,kG⟩:=zb hp;have hu:=bB hl;have be:=ZJ kG;refine⟨(h.gT hi).xg hp,rfl,rfl,λv hv=>iL.2 (.inr hv),λv hv=>?_,λv hv=>?_,λv hv=>.inl (BF hv),λv hv U=>?_,λd hd=>.inl hd,λd hd=>.inl hd,λd hd=>.inl hd,λv e=>by cases e⟩
 .rcases ID (eN (sv w i)).toNat hv with rfl|h1
  .exact .inl (iL.2 (.inl rfl))
  exact .inr h1
 .rcases iL.1 hv with rfl|h1
  .right;refine⟨be,λd hd=>?_,.inl (h.rm i hi _ hu)⟩;unfold kt Bh at kG;rw[Bool.and_eq_true,zd (p:=λd=>l6 (sv w i) d)] at kG;exact adx h hi (kG.2 d hd)
  exact .inl h1
 rcases ID (eN (sv w i)).toNat hv with rfl|h1
 .exact absurd be U
 exact h1
def SF {i:Nat} (hi:i<4):∀(n:Nat) {w:aI},Inv w->Inv (dL w i (ka n (sv w i)))/\Ext w (dL w i (ka n (sv w i)))
 |0,w,h=>by
  have e:dL w i (ka 0 (sv w i))=w:=Ic (by rw[h.bD.aw];exact hi);rw[e];exact⟨h,Ext.refl w⟩
 |n+1,w,h=>by
  unfold ka;split
  .rw[Ic (by rw[h.bD.aw];exact hi)];exact⟨h,Ext.refl w⟩
  rename_i hp;have g:=ady h hi om;have h1:=g.inv h hi;obtain⟨a,b⟩:=SF hi n h1;rw[nD h.bD hi,HV] at a b;exact⟨a,(g.ext h hi).trans b⟩
def SG {w:aI} (h:Inv w) {i:Nat} (hi:i<4):Inv (dL w i (fQ (sv w i)))/\Ext w (dL w i (fQ (sv w i))):=by
 obtain⟨a,b⟩:=SF hi (sv w i).waits.length h;have e:sv (dL w i (ka (sv w i).waits.length (sv w i))) i=iX (sv w i):=nD h.bD hi _;have g:nG (dL w i (ka (sv w i).waits.length (sv w i))) i (fQ (sv w i)) none:=by
  refine⟨(h.gT hi).settle,by rw[e];rfl,by rw[e];rfl,λv hv=>by rw[e] at hv;exact hv,λv hv=>by rw[e] at hv;exact .inr hv,λv hv=>by rw[e];exact .inl hv,λv hv=>by rw[e];exact .inl hv,λv hv _=>by rw[e] at hv;exact hv,λd hd=>by rw[e];exact .inl (qP hd),λd hd=>by rw[e];exact .inl hd,λd hd=>by rw[e] at hd;exact .inl hd,λv e=>by cases e⟩
 have h1:=g.inv a hi;have h2:=g.ext a hi;rw[HV] at h1 h2;exact⟨h1,b.trans h2⟩
def adz {w:aI} (hg:cy w) {i:Nat} (hi:i<4) {s:Server} (h:Inv (dL w i s)):Inv (dL w i (fQ s))/\Ext (dL w i s) (dL w i (fQ s)):=by
 have:=SG h hi;rwa[nD hg hi,HV] at this
def adA {w:aI} (h:Inv w) {i:Nat} (hi:i<4) {m:az} (hm:bM m=true) (ha:ep w i m.slot.toNat<m.bf) (hf:yM (sv w (cv i)) m) (hg:bH (kr (sv w i) m)):
 tZ w i (kr (sv w i) m) m.slot.toNat:=by
 have jM:=qB hm;have SH:=nx hm;obtain⟨f1,f2,f3,f4⟩:=hf;have ku:m.slot.toNat<3:=by omega
 have jq:=pQ hi;have hlen:(sv w i).aF.length=3:=(h.gT hi).aF;have vo:∀j,ab (kr (sv w i) m).aF j=if j=m.slot.toNat then⟨m.bf,1⟩ else ab (sv w i).aF j:=λj=>jh (by rw[show(eb (sv w i) m.slot).aF=(sv w i).aF from rfl,hlen];exact ku)
 have jV:ab (kr (sv w i) m).aF m.slot.toNat=⟨m.bf,1⟩:=by rw[vo,if_pos rfl]
 have hv:∀v,v∈(kr (sv w i) m).an↔(v∈(sv w i).an/\cW v.key≠m.slot)\/v∈m.an:=λv=>
  (RC (s:=sv w i) hm (l:=(eb (sv w i) m.slot).an) (vs:=m.an) (λv hv=>(IM.1 hv).2) (λv hv=>((f2 v).1 hv).2) SH.1 v).trans (or_congr IM Iff.rfl)
 have xy:∀v,v∈(kr (sv w i) m).waits↔(v∈(sv w i).waits/\cW v.key≠m.slot)\/v∈m.waits:=λv=>
  (RC (s:=sv w i) hm (l:=(eb (sv w i) m.slot).waits) (vs:=m.waits) (λv hv=>(IN.1 hv).2) (λv hv=>((f3 v).1 hv).2) SH.2.1 v).trans (or_congr IN Iff.rfl)
 have ho:∀d,d∈(kr (sv w i) m).aD↔(d∈(sv w i).aD/\cW d.key≠m.slot)\/d∈m.aD:=λd=>Q4.trans (or_congr Rn Iff.rfl);have ub:behind (sv w i) (sv w (cv i)) m.slot.toNat:=by
  left;rw[f1];exact ha
 have rq:behind (sv w (cv i)) (kr (sv w i) m) m.slot.toNat:=by
  right;rw[f1,jV];exact⟨rfl,rfl⟩
 have B0:¬behind (kr (sv w i) m) (sv w (cv i)) m.slot.toNat:=by
  unfold behind;rw[f1,jV];simp
 have JC:¬behind (sv w (cv i)) (sv w i) m.slot.toNat:=by
  have hx:=h.fits i hi _ ku;exact QH hx ub
 have mh:∀{v:aE},ef v=true->(vk v=m.slot.toNat↔cW v.key=m.slot):=λhv=>Qd hv jM.1;have vu:∀v∈m.an,v∈(sv w (cv i)).an/\cW v.key=m.slot:=λv hv=>(f2 v).1 hv;have JD:∀v∈m.waits,v∈(sv w (cv i)).waits/\cW v.key=m.slot:=λv hv=>(f3 v).1 hv;have dk:∀{d:ao},(cW d.key).toNat≠m.slot.toNat->cW d.key≠m.slot:=λe e2=>e (by rw[e2]);refine⟨hg,rfl,λj hj aZ=>by rw[vo,if_neg aZ],λv eD aZ=>?_,λv eD aZ=>?_,λd aZ=>?_,λd hd=>hd,?_,?_,λv dP e=>?_,λv dP e=>?_,λv dP e=>.inl ((hv v).2 (.inr ((f2 v).2 ⟨?_,?_⟩))),λv dP e=>.inl ?_,λhb=>absurd hb B0,λ_ v dP e=>(hv v).2 (.inr ((f2 v).2 ⟨dP,?_⟩)),λhb=>absurd hb B0,λ_ v dP e=>.inr ((xy v).2 (.inr ((f3 v).2 ⟨dP,?_⟩))),λd hd e=>?_,λ_ v dP e U=>?_,λhb=>absurd rq hb,λbe=>?_⟩
 .rw[hv];constructor
  .rintro(⟨a,_⟩|a)
   .exact a
   exact absurd ((mh eD).2 (vu v a).2) aZ
  exactλa=>.inl ⟨a,λe=>aZ ((mh eD).2 e)⟩
 .rw[xy];constructor
  .rintro(⟨a,_⟩|a)
   .exact a
   exact absurd ((mh eD).2 (JD v a).2) aZ
  exactλa=>.inl ⟨a,λe=>aZ ((mh eD).2 e)⟩
 .rw[ho];constructor
  .rintro(⟨a,_⟩|a)
   .exact a
   exact absurd ((f4 d).1 a).2 (dk aZ)
  exactλa=>.inl ⟨a,dk aZ⟩
 .rw[jV,f1];simp[ma,uL]
 .rw[jV];exact Int.le_of_lt ha
 .have eD:=jw hg (.inl dP);rcases(hv v).1 dP with⟨_,a⟩|a
  .exact absurd ((mh eD).1 e) a
  have:=cF.here jq (vu v a).1;rwa[pb] at this
 .have eD:=jw hg (.inr dP);rcases(xy v).1 dP with⟨_,a⟩|a
  .exact absurd ((mh eD).1 e) a
  have:=h.rm _ jq v (JD v a).1;rwa[pb] at this
 .exact h.qe i hi v dP (e▸ub)
 .exact(mh (jw (h.gT hi) (.inl dP))).1 e
 .have eD:=jw (h.gT hi) (.inr dP);have e':=(mh eD).1 e;rcases h.rl i hi v dP (e▸ub) with a|a
  .exact .inl ((hv v).2 (.inr ((f2 v).2 ⟨a,e'⟩)))
  exact .inr ((xy v).2 (.inr ((f3 v).2 ⟨a,e'⟩)))
 .exact(mh (jw (h.gT jq) (.inl dP))).1 e
 .exact(mh (jw (h.gT jq) (.inr dP))).1 e
 .rcases(ho d).1 hd with⟨a,_⟩|a
  .exact h.aD i hi d a
  have:=h.aD _ jq d ((f4 d).1 a).1;rwa[pb] at this
 .have eD:=jw hg (.inl dP);rcases(hv v).1 dP with⟨_,a⟩|a
  .exact absurd ((mh eD).1 e) a
  rcases h.rn _ jq v (vu v a).1 (by rw[pb];exact U) (by rw[j4,e];exact JC) with b|b
  .exact .inl ((ho _).2 (.inr ((f4 _).2 ⟨b,(vu v a).2⟩)))
  rw[pb] at b;exact .inr b
 rw[f1];exact Int.le_of_lt ha
def adB {w:aI} (h:Inv w) {i:Nat} (hi:i<4) {m:az} (hm:bM m=true) (h2:(ab (sv w i).aF m.slot.toNat).dy=2) (he:(ab (sv w i).aF m.slot.toNat).bf=m.bf) (ht:m.bf<=ep w (cv i) m.slot.toNat):
 tZ w i (kR (sv w i) m) m.slot.toNat:=by
 have jM:=qB hm;have ku:m.slot.toNat<3:=by omega
 have jq:=pQ hi;have hlen:(sv w i).aF.length=3:=(h.gT hi).aF;have vo:∀j,ab (kR (sv w i) m).aF j=if j=m.slot.toNat then⟨m.bf,0⟩ else ab (sv w i).aF j:=λj=>jh (by rw[show(eb (sv w i) m.slot).aF=(sv w i).aF from rfl,hlen];exact ku)
 have jV:ab (kR (sv w i) m).aF m.slot.toNat=⟨m.bf,0⟩:=by rw[vo,if_pos rfl]
 have hg:bH (kR (sv w i) m):=Ra (h.gT hi) hm;have mh:∀{v:aE},ef v=true->(vk v=m.slot.toNat↔cW v.key=m.slot):=λhv=>Qd hv jM.1;have hv:∀v,v∈(kR (sv w i) m).an↔v∈(sv w i).an/\cW v.key≠m.slot:=λv=>IM;have xy:∀v,v∈(kR (sv w i) m).waits↔v∈(sv w i).waits/\cW v.key≠m.slot:=λv=>IN;have ho:∀d,d∈(kR (sv w i) m).aD↔d∈(sv w i).aD/\cW d.key≠m.slot:=λd=>Rn;have ix:=h.fits i hi _ ku;have EU:(ab (sv w i).aF m.slot.toNat).bf<=(ab (sv w (cv i)).aF m.slot.toNat).bf:=by rw[he];exact ht
 have ub:behind (sv w i) (sv w (cv i)) m.slot.toNat:=by
  rcases ZU ix with hb|hb
  .exact hb
  unfold behind at hb;omega
 have JC:¬behind (sv w (cv i)) (sv w i) m.slot.toNat:=QH ix ub;have rq:¬behind (sv w (cv i)) (kR (sv w i) m) m.slot.toNat:=by
  unfold behind;rw[jV];show¬((ab (sv w (cv i)).aF m.slot.toNat).bf<m.bf\/(_/\(0:Int)=1));omega
 have JE:∀v∈(kR (sv w i) m).an,vk v≠m.slot.toNat:=λv dP e=>((hv v).1 dP).2 ((mh (jw hg (.inl dP))).1 e);have SI:∀v∈(kR (sv w i) m).waits,vk v≠m.slot.toNat:=λv dP e=>((xy v).1 dP).2 ((mh (jw hg (.inr dP))).1 e);have dk:∀{d:ao},(cW d.key).toNat≠m.slot.toNat->cW d.key≠m.slot:=λe e2=>e (by rw[e2]);refine⟨hg,rfl,λj hj aZ=>by rw[vo,if_neg aZ],λv eD aZ=>(hv v).trans ⟨λa=>a.1,λa=>⟨a,λe=>aZ ((mh eD).2 e)⟩⟩,λv eD aZ=>(xy v).trans ⟨λa=>a.1,λa=>⟨a,λe=>aZ ((mh eD).2 e)⟩⟩,λd aZ=>(ho d).trans ⟨λa=>a.1,λa=>⟨a,dk aZ⟩⟩,λd hd=>hd,?_,?_,
  λv dP e=>absurd e (JE v dP),λv dP e=>absurd e (SI v dP),λv dP e=>.inr (h.qe i hi v dP (e▸ub)),λv dP e=>.inr (h.rl i hi v dP (e▸ub)),λ_ v dP e=>absurd e (JE v dP),λhb=>absurd hb rq,λ_ v dP e=>absurd e (SI v dP),λhb=>absurd hb rq,λd hd e=>h.aD i hi d ((ho d).1 hd).1,λ_ v dP e=>absurd e (JE v dP),λ_ v dP e U=>?_,λ_=>EU⟩
 .rw[jV];unfold ma uL wB at ix⊢;simp only[Bool.or_eq_true,Bool.and_eq_true,beq_iff_eq,bne_iff_ne,decide_eq_true_eq] at ix⊢;simp;omega
 .rw[jV,he];exact Int.le_refl _
 have:=h.rn _ jq v dP (by rw[pb];exact U) (by rw[j4,e];exact JC);rwa[pb] at this
def adC {w:aI} (h:Inv w) {i:Nat} (hi:i<4) {slot:Int} (hk:l5 (sv w i) slot=true):tZ w i (kO (sv w i) slot) slot.toNat:=by
 obtain⟨_,h0,h2,h1,h9⟩:=uT hk;have ku:slot.toNat<3:=by omega
 have jq:=pQ hi;have hlen:(sv w i).aF.length=3:=(h.gT hi).aF;have vo:∀j,ab (kO (sv w i) slot).aF j=if j=slot.toNat then⟨(ab (sv w i).aF slot.toNat).bf+1,2⟩ else ab (sv w i).aF j:=λj=>jh (by rw[hlen];exact ku)
 have jV:ab (kO (sv w i) slot).aF slot.toNat=⟨(ab (sv w i).aF slot.toNat).bf+1,2⟩:=by rw[vo,if_pos rfl]
 have ix:=h.fits i hi _ ku;have M8:=Iq ix h1;have ub:¬behind (sv w i) (sv w (cv i)) slot.toNat:=QF ix h1;have rq:behind (sv w (cv i)) (sv w i) slot.toNat:=QG ix h1;have B0:¬behind (kO (sv w i) slot) (sv w (cv i)) slot.toNat:=by
  unfold behind;rw[jV];show¬(_+1<_\/_+1=_/\_);omega
 have adD:behind (sv w (cv i)) (kO (sv w i) slot) slot.toNat:=by
  left;rw[jV];show _<_+1;omega
 refine⟨za (h.gT hi) hk,rfl,λj hj aZ=>by rw[vo,if_neg aZ],λv _ _=>Iff.rfl,λv _ _=>Iff.rfl,λd _=>Iff.rfl,λd hd=>hd,?_,?_,λv hv e=>cF.here hi hv,λv hv e=>h.rm i hi v hv,λv hv e=>.inl hv,λv hv e=>.inl (.inr hv),λhb=>absurd hb B0,λ_ v hv e=>?_,λhb=>absurd hb B0,λ_ v hv e=>?_,λd hd _=>h.aD i hi d hd,λ_ v hv e U=>h.rn i hi v hv U (e▸ub),λhb=>absurd adD hb,λe=>by omega⟩
 .rw[jV];unfold ma uL wB;simp only[Bool.or_eq_true,Bool.and_eq_true,beq_iff_eq,bne_iff_ne,decide_eq_true_eq];simp;omega
 .rw[jV];show _<=_+1;omega
 .have:=h.qe _ jq v hv (by rw[j4,e];exact rq);rwa[j4] at this
 have:=h.rl _ jq v hv (by rw[j4,e];exact rq);rwa[j4] at this
structure gU (w:aI) (i:Nat) (r:Server×List az):Prop where
 inv:Inv (dL w i r.1)
 ext:Ext w (dL w i r.1)
 words:∀x∈r.2,eU (dL w i r.1) x
def gU.same {w:aI} (h:Inv w) {i:Nat} (hi:i<4) {ws:List az} (hw:∀x∈ws,eU w x):gU w i (sv w i,ws):=by
 have e:dL w i (sv w i)=w:=Ic (by rw[h.bD.aw];exact hi);exact⟨by rw[e];exact h,by rw[e];exact Ext.refl w,by rw[e];exact hw⟩
def gU.settle {w:aI} (h:Inv w) {i:Nat} (hi:i<4) {s:Server} (h1:Inv (dL w i s)) (hx:Ext w (dL w i s)) {ws:List az} (hw:∀x∈ws,∀y,Ext (dL w i s) y->eU y x):gU w i (fQ s,ws):=by
 obtain⟨a,b⟩:=adz h.bD hi h1;exact⟨a,hx.trans b,λx hxm=>hw x hxm _ b⟩
def adF {w:aI} {m:az} (hk:m.kind=5) (h:∃v,m.an=[v]/\cF w (m.aU/2).toNat v/\bP v.ar.site=m.aU/2):eU w m:=by
 constructor<;>intro e<;>first|exact h|(rw[hk] at e;exact absurd e aM)
def adG {w:aI} (h:Inv w) {i:Nat} (hi:i<4) {m:az} (hm:bM m=true) (g:eU w m) (hk:m.kind=1) (iY:m.to=(i:Int)) (nb:1<=m.call) (ho:gf (sv w i) m.key=true)
 (hn:j3 (sv w i) m.key (m.aU-10) m.call=none) (km:jG (jR (sv w i) m)=true) (SJ:gH (sv w i).an (fk (sv w i) m)=true) (hl:(sv w i).aD.length<80):
 nG w i {(sv w i) with an:=eE (sv w i).an (fk (sv w i) m),aD:=eF (sv w i).aD (fk (sv w i) m).bh} (some (fk (sv w i) m))/\(fk (sv w i) m).aq=((i/2:Nat):Int):=by
 obtain⟨q,hq,a1,a2,a3,a4,a5,a6,a7⟩:=g.k1 hk;have U:=h.gT hi;obtain⟨b1,b2,b3⟩:=Ex U hm km;have be:=(wM ho).2;have kv:=h.site hi;have EV:q.aq=((i/2:Nat):Int):=by rw[<-a3,iY];omega
 have zH:(fk (sv w i) m).aq=((i/2:Nat):Int):=by show m.aU-10=_;omega
 have rH:bP (fk (sv w i) m).ar.site=((i/2:Nat):Int):=by rw[b1,kv];exact Dz hi
 have B1:q.aq.toNat=i/2:=by omega
 refine⟨⟨U.put SJ (by rw[b1]) (by show dU (sv w i) m.key≠0;omega) hl,rfl,rfl,λv hv=>iL.2 (.inr hv),λv hv=>.inr hv,λv hv=>?_,λv hv=>.inl hv,λv hv _=>hv,λd hd=>.inl hd,λd hd=>?_,λd hd=>.inl (zj.2 (.inr hd)),λv e=>?_⟩,zH⟩
 .rcases iL.1 hv with rfl|hv
  .right;refine⟨be,λd hd=>?_,.inr rfl⟩;have aQ:=h.ctx q hq;rw[a7,B1] at aQ;obtain⟨u,e1,e2,_⟩:=aQ d hd;exact⟨u,e2,e1⟩
  exact .inl hv
 .rcases zj.1 hd with rfl|hd
  .exact .inr ⟨_,rfl,rfl⟩
  exact .inl hd
 have e:=Option.some.inj e;subst e;refine⟨iL.2 (.inl rfl),zj.2 (.inl rfl),be,by rw[rH,zH],zH,λσ u hu=>?_,q,hq,by rw[EV,zH],a2,a4,a5,a6,a7⟩;have EW:=h.home σ u hu;constructor
 .intro e;have e1:u.ar=(fk (sv w i) m).ar:=congrArg ao.ar e;have e2:u.key=m.key:=congrArg ao.key e;have huc:u.aq.toNat=i/2:=by rw[<-EW.1,e1,rH];omega
  have tL:=EW.2;rw[huc] at tL;have:=h.owner hi tL (by rw[e2];exact be);exact pT (rY SJ).2.1 u this e
 rintro⟨e1,e2⟩;have yh:u.aq=((i/2:Nat):Int):=e1.trans zH;have tL:=EW.2;rw[show u.aq.toNat=i/2 by omega] at tL;obtain⟨p,hp,c1,c2,c3,c4,_⟩:=h.made σ u hu;have B2:p=q:=Jf h.bD hp hq (by rw[c1,yh,EV]) (by rw[c2,e2];exact a2.symm);rw[B2,a5] at c4;have kD:=h.owner hi tL (by rw[<-c4];exact be);have:=aca hn kD;have h3:u.aq=m.aU-10:=e1;have h4:u.call=m.call:=e2;have h5:bP u.ar.site=bP (sv w i).site:=by rw[EW.1,yh,kv,Dz hi]
 unfold oZ at this;rw[h3,h4,h5,<-c4] at this;simp at this
def adI {w:aI} (h:Inv w) {i:Nat} (hi:i<4) {m:az} (hm:bM m=true) (g:eU w m) (hk:m.kind=1) (iY:m.to=(i:Int)):gU w i (im (sv w i) m):=by
 obtain⟨q,hq,a1,a2,a3,a4,a5,a6,a7⟩:=g.k1 hk;have EV:q.aq=((i/2:Nat):Int):=by rw[<-a3,iY];omega
 have SK:(m.aU-10).toNat=i/2:=by omega
 unfold im;split
 .rename_i hc;simp only[Bool.and_eq_true,decide_eq_true_eq] at hc;split
  .rename_i v hv;obtain⟨c1,c2,c3,c4,c5⟩:=OP hv;refine gU.same h hi λx hx=>?_;obtain rfl:x=_:=by simpa using hx
   refine R9 rfl ⟨v,?_,c3,c4,c2,rfl⟩;show cF w (m.aU-10).toNat v;rw[SK];exact cF.here hi c1
  rename_i hn;split
  .rename_i fZ;simp only[Bool.and_eq_true,decide_eq_true_eq] at fZ;obtain⟨gr,zH⟩:=adG h hi hm g hk iY hc.1.2 hc.2 hn fZ.1.1 fZ.1.2 fZ.2;refine gU.settle h hi (gr.inv h hi) (gr.ext h hi) λx hx y hy=>?_;obtain rfl:x=_:=by simpa using hx
   refine R9 rfl ⟨fk (sv w i) m,hy.eO ?_,rfl,rfl,rfl,rfl⟩;show cF _ (m.aU-10).toNat _;rw[SK];exact⟨i,hi,rfl,by rw[nD h.bD hi];exact iL.2 (.inl rfl)⟩
  exact gU.same h hi λx hx=>by simp at hx
 exact gU.same h hi λx hx=>by simp at hx
def adJ {w:aI} (h:Inv w) {i:Nat} (hi:i<4) {m:az} (hm:bM m=true) (g:eU w m) (hk:m.kind=3) (iY:m.to=(i:Int)):∀x∈iV (sv w i) m,eU w x:=by
 obtain⟨q,hq,a1,a2,a3⟩:=g.k3 hk;have EV:q.aq=((i/2:Nat):Int):=by rw[<-a3,iY];omega
 have B1:q.aq.toNat=i/2:=by omega
 have aQ:=h.ctx q hq;rw[B1] at aQ;have U:=h.gT hi;unfold iV;split
 .rename_i hc;simp only[Bool.and_eq_true,decide_eq_true_eq] at hc;have be:=(wM hc.2).2;have dO:∀d∈q.ctx,d.key=m.key->∃u∈(sv w i).an,u.bh=d:=λd hd e=>by
   obtain⟨u,e1,e2,_⟩:=aQ d hd;exact⟨u,h.owner hi e1 (by rw[show u.key=d.key from congrArg ao.key e2,e];exact be),e2⟩
  split
  .rename_i hn;intro x hx;obtain rfl:x=_:=by simpa using hx
   refine Sa rfl ⟨q,hq,a1,a2,λhy=>?_,λhy=>⟨hn,?_⟩⟩
   .obtain⟨v,hv⟩:=Option.isSome_iff_exists.1 hy;have iK:=A3 hv;refine⟨v,by show(fq (sv w i).an m.key).toList=[v];rw[hv];rfl,iK.2,by rw[B1];exact cF.here hi iK.1,λ_=>?_,λe=>absurd (hn.symm.trans e) aM⟩;rcases Ee (l:=q.ctx) (key:=m.key) with e|e
    .show ck v.ar (bL q.ctx m.key)=false;rw[e];exact Qe (gy U.an v iK.1)
    obtain⟨u,hu,e2⟩:=dO _ e rfl;have h1:=Zy (P7 U.an) hv hu (congrArg ao.key e2);have e3:u.ar=bL q.ctx m.key:=congrArg ao.ar e2;show ck v.ar (bL q.ctx m.key)=false;rw[<-e3];exact h1
   have km:fq (sv w i).an m.key=none:=by
    cases ht:fq (sv w i).an m.key with
    |none=>rfl
    |some v=>have:(fq (sv w i).an m.key).isSome=false:=hy;rw[ht] at this;cases this
   rcases Ee (l:=q.ctx) (key:=m.key) with e|e
   .exact e
   obtain⟨u,hu,e2⟩:=dO _ e rfl;exact absurd (congrArg ao.key e2) (YC km hu)
  rename_i hn;split
  .rename_i v hv;intro x hx;obtain rfl:x=_:=by simpa using hx
   have iK:=Bu hv;refine Sa rfl ⟨q,hq,a1,a2,λ_=>⟨v,rfl,congrArg ao.key iK.2,by rw[B1];exact cF.here hi iK.1,λe=>absurd e hn,λ_=>congrArg ao.ar iK.2⟩,λe=>by cases e⟩
  intro x hx;simp at hx
 intro x hx;simp at hx
def adK {w:aI} (h:Inv w) {i:Nat} (hi:i<4) {m:az} (hm:bM m=true) (g:eU w m) (hk:m.kind=5):gU w i (iq (sv w i) m):=by
 have kv:=h.site hi;unfold iq;split
 .rename_i hr;obtain⟨r1,r2,r3,r4,r5⟩:=Bd hr;obtain⟨v,e1,e2,e3⟩:=g.k5 hk;have ev:ab m.an 0=v:=by rw[e1];rfl
  obtain⟨n1,n2,n3,n4⟩:=DA r1;have JF:(m.aU/2).toNat=1-i/2:=by
   rw[n2,kv,Dz hi] at r2;omega
  rw[JF] at e2;dsimp only;rw[ev] at r4 r5⊢;have be:=(wM r4).2;have adL:∀y,mI y (i/2) v->eU y (l7 (sv w i) m v):=λy hc=>Sb rfl ⟨v,rfl,by
   show mI y ((sv w i).site/2).toNat v;rw[kv,show((i:Int)/2).toNat=i/2 by omega];exact hc⟩
  split
  .rename_i hn;split
   .rename_i hc;have gr:nG w i {(sv w i) with waits:=eE (sv w i).waits v} none:=by
     refine⟨(h.gT hi).wait hc hn.1 r5 om,rfl,rfl,λu hu=>hu,λu hu=>.inr (iL.2 (.inr hu)),λu hu=>.inl hu,λu hu=>?_,λu hu _=>iL.2 (.inr hu),λd hd=>.inl hd,λd hd=>.inl hd,λd hd=>.inl hd,λu e=>by cases e⟩;rcases iL.1 hu with rfl|hu
     .exact .inr ⟨be,e2⟩
     exact .inl hu
    refine gU.settle h hi (gr.inv h hi) (gr.ext h hi) λx hx y hy=>?_;obtain rfl:x=_:=by simpa using hx
    exact adL y (hy.cont ⟨i,hi,rfl,.inr (by rw[nD h.bD hi];exact iL.2 (.inl rfl))⟩)
   exact gU.same h hi λx hx=>by simp at hx
  rename_i hn;obtain⟨a,b⟩:=SG h hi;refine⟨a,b,λx hx=>?_⟩;obtain rfl:x=_:=by simpa using hx
  have hp:0<=placeOf (sv w i).an v.bh\/0<=placeOf (sv w i).waits v.bh:=by omega
  have SL:∃u:aE,u.bh=v.bh/\mI w (i/2) u:=by
   rcases hp with hp|hp
   .obtain⟨u,hu,e⟩:=wZ.1 hp;exact⟨u,e,i,hi,rfl,.inl hu⟩
   obtain⟨u,hu,e⟩:=wZ.1 hp;exact⟨u,e,i,hi,rfl,.inr hu⟩
  obtain⟨u,e4,e5⟩:=SL;refine Sb rfl ⟨u,e4,b.cont ?_⟩;show mI w ((sv w i).site/2).toNat u;rw[kv,show((i:Int)/2).toNat=i/2 by omega];exact e5
 exact gU.same h hi λx hx=>by simp at hx
def adM {w:aI} (h:Inv w) {i:Nat} (hi:i<4) {m:az} (hm:bM m=true) (g:eU w m) (hk:m.kind=6):gU w i (l8 (sv w i) m,[]):=by
 have kv:=h.site hi;have p9:bH (l8 (sv w i) m):=Q8 (h.gT hi);unfold l8 at p9⊢;split
 .rename_i hc;rw[if_pos hc] at p9;simp only[Bool.and_eq_true,decide_eq_true_eq,bne_iff_ne,beq_iff_eq] at hc;obtain⟨⟨⟨r1,r2⟩,r3⟩,r4⟩:=hc;obtain⟨v',e1,e2⟩:=g.k6 hk;obtain⟨n1,n2,n3,n4⟩:=DA r1;have JF:(m.aU/2).toNat=1-i/2:=by
   rw[n2,kv,Dz hi] at r2;omega
  rw[JF] at e2;have Dr:ab (sv w i).aD (fG (sv w i).aD ⟨m.key,m.ar⟩).toNat=⟨m.key,m.ar⟩:=Zh r3;have gr:nG w i {(sv w i) with aD:=(sv w i).aD.take (fG (sv w i).aD ⟨m.key,m.ar⟩).toNat++(sv w i).aD.drop ((fG (sv w i).aD ⟨m.key,m.ar⟩).toNat+1)} none:=by
   refine⟨p9,rfl,rfl,λu hu=>hu,λu hu=>.inr hu,λu hu=>.inl hu,λu hu=>.inl hu,λu hu _=>hu,λd hd=>.inl hd,λd hd=>.inl (BF hd),λd hd=>?_,λu e=>by cases e⟩;rcases ID (fG (sv w i).aD ⟨m.key,m.ar⟩).toNat hd with e|hd
   .right;rw[Dr] at e;subst e;refine⟨r4,λu hu e=>?_⟩;obtain⟨τ,dP⟩:=e2.eO h;have:=h.uniq _ _ u v' (cF.here hi hu) dP (e.trans e1.symm);rw[this];exact e2
   exact .inl hd
  exact⟨gr.inv h hi,gr.ext h hi,λx hx=>by simp at hx⟩
 exact gU.same h hi λx hx=>by simp at hx
def adN {w:aI} (h:Inv w) {i:Nat} (hi:i<4) (m:az):∀x∈nz (sv w i) m,eU w x:=by
 have kv:=h.site hi;unfold nz;split
 .rename_i hc;rw[Bool.and_eq_true] at hc;intro x hx;obtain rfl:x=_:=by simpa using hx
  obtain⟨v,hv⟩:=Option.isSome_iff_exists.1 hc.1;have iK:=Bu hv;refine ab7 rfl ⟨v,iK.2,?_⟩;show cF w ((sv w i).site/2).toNat v;rw[kv,show((i:Int)/2).toNat=i/2 by omega];exact cF.here hi iK.1
 intro x hx;simp at hx
def JG {w:aI} (h:Inv w) {i:Nat} (hi:i<4) {m:az} (hf:m.aU=fj (sv w i).site):m.aU.toNat=cv i/\(m.aU/2).toNat=i/2:=by
 rw[h.site hi,YA] at hf;have:=pb i;omega
def adO {w:aI} (h:Inv w) {i:Nat} (hi:i<4) {m:az} (hm:bM m=true) (g:eU w m) (hk:m.kind=8) (hu:(sv w i).up=true):gU w i (mW (sv w i) m,[]):=by
 unfold mW;split
 .rename_i hc;simp only[Bool.and_eq_true,decide_eq_true_eq,beq_iff_eq] at hc;obtain⟨v,hv,hd⟩:=Q9.1 hc.1.2;obtain⟨u,e1,e2⟩:=g.k8 hk;rw[(JG h hi hc.1.1).2] at e2;have gr:nG w i {(sv w i) with bj:=eF (sv w i).bj ⟨m.key,m.ar⟩} none:=by
   refine⟨(h.gT hi).QR (Eh (jv (gy (h.gT hi).waits v hv)).2.2 _ hd) hc.2 hu,rfl,rfl,λu hu=>hu,λu hu=>.inr hu,λu hu=>.inl hu,λu hu=>.inl hu,λu hu _=>hu,λd hd=>?_,λd hd=>.inl hd,λd hd=>.inl hd,λu e=>by cases e⟩;rcases zj.1 hd with rfl|hd
   .exact .inr ⟨u,e1,e2⟩
   exact .inl hd
  exact gU.settle h hi (gr.inv h hi) (gr.ext h hi) λx hx=>by simp at hx
 exact gU.same h hi λx hx=>by simp at hx
def SM {w y:aI} (h:Inv w) {i:Nat} (hi:i<4) {m:az} (he:m.bf<=ep y i m.slot.toNat):eU y (nr (sv w i) m):=by
 have kv:=h.site hi;refine ab9 rfl ?_;show(sv w i).site.toNat<4/\m.bf<=ep y (sv w i).site.toNat m.slot.toNat;rw[kv,Int.toNat_natCast];exact⟨hi,he⟩
def adP {w:aI} (h:Inv w) {i:Nat} (hi:i<4) {m:az} (hm:bM m=true) (g:eU w m) (hk:m.kind=9):gU w i (ir (sv w i) m):=by
 have jM:=qB hm;unfold ir;split
 .rename_i hc;simp only[Bool.and_eq_true,decide_eq_true_eq,beq_iff_eq] at hc;obtain⟨f1,f2⟩:=JG h hi hc.1;split
  .rename_i he;refine gU.same h hi λx hx=>?_;obtain rfl:x=_:=by simpa using hx
   exact SM h hi he
  rename_i he;split
  .rename_i fZ;rw[Bool.and_eq_true] at fZ;obtain⟨_,k9⟩:=g.k9 hk;rw[f1,j4] at k9;have xz:=k9.resolve_left he;have tr:=adA h hi hm (by unfold ep;omega) xz (jx.1 fZ.2);refine gU.settle h hi (tr.inv h hi om) (tr.ext h hi) λx hx y hy=>?_;obtain rfl:x=_:=by simpa using hx
   refine SM h hi (Int.le_trans ?_ (hy.ep i hi _ om));unfold ep;rw[nD h.bD hi];have e:ab (kr (sv w i) m).aF m.slot.toNat=⟨m.bf,1⟩:=by
    show ab ((sv w i).aF.set m.slot.toNat ⟨m.bf,1⟩) m.slot.toNat=_;rw[jh (by rw[(h.gT hi).aF];omega),if_pos rfl]
   rw[e];exact Int.le_refl _
  exact gU.same h hi λx hx=>by simp at hx
 exact gU.same h hi λx hx=>by simp at hx
def adQ {w:aI} (h:Inv w) {i:Nat} (hi:i<4) {m:az} (hm:bM m=true) (g:eU w m) (hk:m.kind=10):gU w i (mX (sv w i) m,[]):=by
 have jM:=qB hm;unfold mX;split
 .rename_i hc;simp only[Bool.and_eq_true,decide_eq_true_eq,beq_iff_eq] at hc;obtain⟨f1,f2⟩:=JG h hi hc.1.1;have kV:=(g.kV hk).2;rw[f1] at kV;have tr:=adB h hi hm hc.1.2 hc.2 kV;exact gU.settle h hi (tr.inv h hi om) (tr.ext h hi) λx hx=>by simp at hx
 exact gU.same h hi λx hx=>by simp at hx
def adR {w:aI} (h:Inv w) {i:Nat} (hi:i<4) {m:az} (hm:m.to=(i:Int)) (g:eU w m):gU w i (fH (sv w i) m):=by
 unfold fH;split
 .rename_i hc;simp only[Bool.and_eq_true] at hc;obtain⟨⟨hu,hw⟩,_⟩:=hc;unfold eH;split
  .exact adI h hi hw g ‹_› hm
  split
  .exact gU.same h hi (adJ h hi hw g ‹_› hm)
  split
  .exact adK h hi hw g ‹_›
  split
  .exact adM h hi hw g ‹_›
  split
  .exact gU.same h hi (adN h hi m)
  split
  .exact adO h hi hw g ‹_› hu
  split
  .exact adP h hi hw g ‹_›
  split
  .exact adQ h hi hw g ‹_›
  exact gU.same h hi λx hx=>by simp at hx
 exact gU.same h hi λx hx=>by simp at hx
def SN {w:aI} (h:Inv w) {σ:Nat} {v:aE} (hv:cF w σ v):l9 w σ v.aR:=by
 obtain⟨q,hq,c1,_,_,_,_,c6⟩:=h.made σ v hv;have hc:=h.ctx q hq;rw[c6] at hc;intro d hd;obtain⟨u,h1,h2,h3⟩:=hc d hd;obtain⟨x,e,hx⟩:=SD h hv hd;have:=h.uniq _ _ x u hx h1 (e.trans h2.symm);exact⟨x,hx,e,by rw[this];exact h3⟩
def JH {w:aI} (h:Inv w) {σ:Nat}:∀{l:List Answer} {D:List ao},l9 w σ D->bN D=true->(∀a∈l,dF a=true)->(∀a∈l,a.yes=true->cF w σ a.bm)->l9 w σ (l.foldl mH D)
 |[],_,hc,_,_,_=>hc
 |a::r,D,hc,hD,hg,hv=>by
  have pF:∀x∈r,dF x=true:=λx hx=>hg x (by simp[hx]);have SO:∀x∈r,x.yes=true->cF w σ x.bm:=λx hx=>hv x (by simp[hx]);have ha:=hg a bt;rw[List.foldl_cons];cases hy:a.yes
  .have e:mH D a=D:=by unfold mH;rw[hy];simp
   rw[e];exact JH h hc hD pF SO
  have e:mH D a=eS (iB D a.bm.aR) a.bm.bh:=by unfold mH;rw[hy];simp
  have SP:=hv a bt hy;have ux:=sk ha;have hj:bN (iB D a.bm.aR)=true:=wX hD λd hd=>p7 ux hd;have be:=(jv (qK ha hy).1).2.1;rw[e];exact JH h (RD (aaK hc (SN h SP) hD ux) hj SP be (Ro hD ux)) (wW hj (y8 ha hy).1) pF SO
def adS {w:aI} (h:Inv w) {q:Call} (hg:∀a∈q.aA,dF a=true) (hv:∀a∈q.aA,a.yes=true->cF w q.aq.toNat a.bm):
 ∃C:Int->cw,(∀a∈q.aA,∀key,ck (C key) (bL a.bm.aR key)=false)/\(∀a∈q.aA,ck a.bm.ar (C a.key)=false\/(⟨a.key,C a.key⟩:ao)∈j9 q)/\
  ∀d∈j9 q,d.ar=C d.key/\∃u,cF w q.aq.toNat u/\u.bh=d/\∀key,ck (C key) (bL u.aR key)=false:=by
 refine⟨λkey=>j7 q.aA key,λa ha key=>RE ha key,λa ha=>?_,λd hd=>?_⟩
 .cases hl:ck a.bm.ar (j7 q.aA a.key)
  .exact .inl rfl
  right;unfold j9;refine List.mem_flatten.2 ⟨_,List.mem_map.2 ⟨a,ha,rfl⟩,?_⟩;unfold ni;rw[SA hg,hl];simp
 obtain⟨a,ha,rfl,hl⟩:=Qb hd;rw[SA hg] at hl⊢;refine⟨rfl,?_⟩;have JI:j7 q.aA a.key≠fK:=λe=>by
  have vw:ck a.bm.ar (j7 q.aA a.key)=true:=hl;rw[e,Qw (hg a ha)] at vw;cases vw
 rcases ZB (l:=q.aA) (key:=a.key) with e|⟨b,hb,e⟩
 .exact absurd e JI
 have hby:b.yes=true:=by
  cases hy:b.yes
  .exfalso;rw[yQ (hg b hb) hy] at e;exact JI e.symm
  rfl
 have hvb:=hv b hb hby;rcases Ee (l:=b.bm.aR) (key:=a.key) with e2|e2
 .exact absurd (e.symm.trans e2) JI
 rw[e] at e2;obtain⟨u,h1,h2,h3⟩:=SN h hvb _ e2;exact⟨u,h1,h2,λkey=>D2 (h3 key) (RE hb key)⟩
def mg.of {w:aI} {q p:Call} (g:mg w q) (h1:p.aq=q.aq) (h2:p.aA=q.aA) (h3:p.ctx=q.ctx) (h4:p.kind=q.kind) (h5:p.keys=q.keys) (h6:p.aO=q.aO):mg w p:=
 ⟨by rw[h1,h2];exact g.eO,by rw[h2,h3];exact g.ctx,by rw[h1,h2,h4,h5,h6];exact g.full⟩
def adV {w:aI} (h:Inv w) {q:Call} {t:Int} (hq:dS q t) (g:mg w q) (hw:gP q=true) {a:Answer} (ha:dF a=true) (iH:g9 q.keys a.key=true) (hn:cB q a.key<0)
 (hv:a.yes=true->cF w q.aq.toNat a.bm) (hc:ck a.bm.ar (bL q.ctx a.key)=false):mg w (mV q a t):=by
 obtain⟨sB,_⟩:=ED hq iH hn;have B3:∀x∈c7 q.aA a,x.yes=true->cF w q.aq.toNat x.bm:=λx hx hy=>by
  rcases r7.1 hx with rfl|hx
  .exact hv hy
  exact g.eO x hx hy
 have jB:∀x∈c7 q.aA a,ck x.bm.ar (bL q.ctx x.key)=false:=λx hx=>by
  rcases r7.1 hx with rfl|hx
  .exact hc
  exact g.ctx x hx
 have m0:∀x∈c7 q.aA a,dF x=true:=λx hx=>by
  rcases r7.1 hx with rfl|hx
  .exact ha
  exact hq.bD x hx
 unfold mV;dsimp only;split
 .rename_i hl;refine⟨B3,jB,λ_ e=>?_⟩;have e':(c7 q.aA a).length=q.keys.length:=e;have vw:(c7 q.aA a).length<q.keys.length:=hl;omega
 have key:mg w {q with aA:=c7 q.aA a,aO:=q.aO++j9 {q with aA:=c7 q.aA a}}:=by
  refine⟨B3,jB,λ_ _=>?_⟩;have:=adS h (q:={q with aA:=c7 q.aA a}) m0 B3;rw[sB,List.nil_append];exact this
 unfold lO;split
 .exact key.of rfl rfl rfl rfl rfl rfl
 exact key
def adW {w:aI} (h:Inv w) {q:Call} {t:Int} (hq:dS q t) (g:mg w q) (hk:q.kind≠1) {a:Answer} (ha:dF a=true) (hy:a.yes=true) (hv:cF w q.aq.toNat a.bm):mg w (mP q a t):=by
 unfold mP;split
 .rename_i kD;have aZ:q.aO≠[]:=λe=>by rw[e] at kD;simp at kD
  have hlen:=hq.full.resolve_left aZ;obtain⟨C,c1,c2,c3⟩:=g.full hk hlen;obtain⟨d1,u,u1,u2,u3⟩:=c3 _ kD;have hau:u=a.bm:=h.uniq _ _ _ _ u1 hv u2;subst hau;have sw:a.bm.key=a.key:=(qK ha hy).2;have tT:=hq.xa _ kD;unfold so at tT;rw[Bool.and_eq_true,decide_eq_true_eq] at tT;have BX:0<=cB q a.key:=by rw[<-sw];exact tT.1
  obtain⟨i1,i2⟩:=w6 BX;have be:a.bm.ar=C a.key:=by rw[<-sw];exact d1
  have B3:∀x∈q.aA.set (cB q a.key).toNat a,x.yes=true->cF w q.aq.toNat x.bm:=λx hx hxy=>by
   rcases wJ hx with rfl|⟨k,rL,fZ,rfl⟩
   .exact hv
   exact g.eO _ (bB rL) hxy
  have hold:=g.ctx _ (bB i1);rw[i2] at hold;have hb:ck a.bm.ar (ab q.aA (cB q a.key).toNat).bm.ar=false:=by
   have ho:=tT.2;have IL:a.bm.bh.key=a.key:=sw;rw[IL] at ho;unfold np at ho;rw[Bool.or_eq_true] at ho;rcases ho with ho|ho
   .rw[yQ (hq.bD _ (bB i1)) (by simpa using ho)];exact Qe (qK ha hy).1
   exact DR ho
  have jB:∀x∈q.aA.set (cB q a.key).toNat a,ck x.bm.ar (bL q.ctx x.key)=false:=λx hx=>by
   rcases wJ hx with rfl|⟨k,rL,fZ,rfl⟩
   .exact D2 hold hb
   exact g.ctx _ (bB rL)
  have key:∀e:Int,mg w {q with aA:=q.aA.set (cB q a.key).toNat a,aO:=q.aO.filter λd=>decide (d≠a.bm.bh),end_:=e}:=λe=>by
   refine⟨B3,jB,λ_ _=>⟨C,λx hx key=>?_,λx hx=>?_,λd hd=>c3 d (qP hd)⟩⟩
   .rcases wJ hx with rfl|⟨k,rL,fZ,rfl⟩
    .exact u3 key
    exact c1 _ (bB rL) key
   rcases wJ hx with rfl|⟨k,rL,fZ,rfl⟩
   .left;rw[be];exact Bp _
   rcases c2 _ (bB rL) with hh|hh
   .exact .inl hh
   right;refine List.mem_filter.2 ⟨hh,?_⟩;rw[decide_eq_true_eq];intro e;have e2:(ab q.aA k).key=a.bm.key:=congrArg ao.key e;have:k=(cB q a.key).toNat:=Qa hq.sorted rL i1 (by rw[e2,sw,i2]);exact fZ this
  dsimp only;split
  .exact key _
  exact(key q.end_).of rfl rfl rfl rfl rfl rfl
 exact g
structure EX (w:aI) (q p:Call):Prop where
 same:kQ q p
 aA:mg w p
 done:p.kind=1->p.end_≠0->∃v,cF w p.aq.toNat v/\v.aq=p.aq/\v.call=p.num/\v.key=ab p.keys 0/\v.ar=p.ar
 kd:p.end_≠0->l9 w p.aq.toNat (gx p)
def adZ {w:aI} (h:Inv w) {q:Call} (hq:q∈w.calls) (hw0:gP q=true) {m:az} (g:eU w m):EX w q (dG q m w.time):=by
 have xA:=h.aA q hq;have vx:dS q w.time:=by obtain⟨i,hi,rfl⟩:=g7 hq;exact h.bD.call hi
 have xu:=(sa hw0).1;have hp:dS (dG q m w.time) w.time:=zB vx;have U:=aby q m w.time;have aQ:=h.ctx q hq;have SQ:EX w q q:=⟨kQ.refl q,xA,λ_ e=>absurd xu e,λe=>absurd xu e⟩;have read:∀p,mg w p->dS p w.time->kQ q p->p.kind≠1->EX w q p:=λp gp cp s hk=>by
  refine⟨s,gp,λe=>absurd e hk,λe=>?_⟩;unfold gx;rw[if_neg e,if_neg hk];obtain⟨s1,_,_,_,_,s6⟩:=s;exact JH h (by rw[s1,s6];exact aQ) cp.ctx cp.bD gp.eO
 unfold dG at hp U⊢;split
 .rename_i hc;rw[if_pos hc] at hp U;simp only[Bool.and_eq_true,decide_eq_true_eq,beq_iff_eq] at hc;obtain⟨⟨⟨⟨⟨hm,iY⟩,BT⟩,iH⟩,hw⟩,hb⟩:=hc;split
  .rename_i hk;rw[if_pos hk] at hp U;split
   .rename_i et;rw[if_pos et] at hp U;obtain⟨v,v1,v2,v3,v4,v5⟩:=g.k2 et.1;have ad1:m.to-10=q.aq:=by omega
    rw[ad1] at v1 v2;have IU:m.key=ab q.keys 0:=by
     have h1:q.keys.length=1:=by have:=vx.keys;simp[iQ,hk] at this;omega
     obtain⟨x,hx⟩:=List.length_eq_one_iff.1 h1;have:=zw.1 iH;rw[hx] at this⊢;simpa[ab] using this
    obtain⟨p,JJ,c1,c2,c3,c4,c5,c6⟩:=h.made _ v v1;have B2:p=q:=Jf h.bD JJ hq (by rw[c1,v2]) (by rw[c2,v3,BT]);subst B2;have ht:w.time≠0:=by have:=vx.bE;omega
    refine⟨U,xA.of rfl rfl rfl rfl rfl rfl,λ_ _=>⟨v,v1,v2,by rw[v3,BT],by rw[v4,IU],v5⟩,λ_=>?_⟩;have e:gx {p with ar:=m.ar,end_:=w.time}=eS p.ctx v.bh:=by
     unfold gx;have e1:({p with ar:=m.ar,end_:=w.time}:Call).end_=w.time:=rfl;rw[if_neg (by rw[e1];exact ht),if_pos hk];show eS p.ctx ⟨ab p.keys 0,m.ar⟩=_;rw[<-IU,<-v4,<-v5];rfl
    rw[e];exact RD aQ vx.ctx v1 (by rw[v5];exact et.2) (by rw[<-c6];exactλkey=>Bp _)
   exact SQ
  rename_i hk;rw[if_neg hk] at hp U;have AG:∀p,kQ q p->p.kind≠1:=λp s e=>hk (by rw[<-s.2.2.1];exact e);refine(?_:mg w (jI q m w.time)->_) ?_
  .exactλhg=>read _ hg hp U (AG _ U)
  unfold jI;split
  .rename_i hr;obtain⟨p,JJ,k1,k2,k3,k4⟩:=g.k4 hr.1;have B2:p=q:=Jf h.bD JJ hq om (by rw[k2,BT]);subst B2;have rr:=Ed (q:=p) hm hr.2;have JK:m.yes=true->∃v,(dK m).bm=v/\v.key=m.key/\cF w p.aq.toNat v/\(dX m.ar=true->ck v.ar (bL p.ctx m.key)=false):=λhy=>by
    obtain⟨v,b1,b2,b3,b4,_⟩:=k3 hy;exact⟨v,by unfold dK;simp only[hy,if_true];rw[b1];rfl,b2,b3,b4⟩
   split
   .rename_i hn;split
    .rename_i zI;refine adV h vx xA hw rr iH hn (λhy=>?_) ?_
     .obtain⟨v,e,_,b,_⟩:=JK hy;rw[e];exact b
     cases hy:m.yes
     .have e:(dK m).bm=rT:=by unfold dK;simp[hy]
      rw[e];show ck rT.ar (bL p.ctx m.key)=false;rw[(k4 hy).2];rfl
     obtain⟨v,e,_,_,b⟩:=JK hy;rw[e];exact b zI
    exact xA
   split
   .rename_i hy;obtain⟨v,e,_,b,_⟩:=JK hy;exact adW h vx xA hk rr hy (by rw[e];exact b)
   exact xA
  exact xA
 exact SQ
def Inv.frame {w x:aI} (h:Inv w) (U:x.aw=w.aw) (hc:x.calls=w.calls) (hn:x.seen=w.seen) (hg:cy x) (hr:∀m∈x.au,eU w m):Inv x:=by
 obtain⟨xt,xs,xr,xc,xn⟩:=x;dsimp only at U hc hn hr;subst U hc hn;have hx:Ext w ⟨xt,w.aw,xr,w.calls,w.seen⟩:=⟨λh=>h,λh=>h,λ_ _ _ _=>Int.le_refl _,λq hq=>⟨q,hq,kQ.refl q⟩⟩;exact⟨hg,h.fits,h.qe,h.rl,h.BY,h.rm,h.bj,h.aD,h.rn,h.home,h.uniq,h.once,h.made,h.done,h.ctx,h.seen,λq hq=>(h.aA q hq).ext hx,h.kd,h.fresh,λm hm=>(hr m hm).ext hx (hg.words m hm) λ_ _ hf=>.inr hf⟩
def Inv.JL {w:aI} (h:Inv w) {i:Nat} (hi:i<w.calls.length) (hw:gP (ab w.calls i)=true) {p:Call} (hp:EX w (ab w.calls i) p) {l:List (List ao)} (hl:(p.end_=0/\l=w.seen)\/(p.end_≠0/\l=w.seen.set p.aq.toNat (gx p)))
 (hg:cy {w with calls:=w.calls.set i p,seen:=l}):Inv {w with calls:=w.calls.set i p,seen:=l}:=by
 have JM:=bB hi;obtain⟨s1,s2,s3,s4,s5,s6⟩:=hp.same;have hx:Ext w {w with calls:=w.calls.set i p,seen:=l}:=⟨λh=>h,λh=>h,λ_ _ _ _=>Int.le_refl _,λq hq=>by
  obtain⟨k,hk,rfl⟩:=g7 hq;by_cases e:k=i
  .subst e;exact⟨p,X8 hi,hp.same⟩
  exact⟨_,Pj hk e,kQ.refl _⟩⟩
 have aQ:=Jh h.bD JM;have jB:∀q∈w.calls.set i p,q=p\/q∈w.calls:=λq hq=>by
  rcases wJ hq with rfl|⟨k,hk,_,rfl⟩
  .exact .inl rfl
  exact .inr (bB hk)
 refine⟨hg,h.fits,h.qe,h.rl,h.BY,h.rm,h.bj,h.aD,h.rn,h.home,h.uniq,h.once,λσ v hv=>?_,λq hq=>?_,λq hq=>?_,λk hk=>?_,λq hq=>?_,λj hj=>?_,λk hk km=>?_,λm hm=>(h.words m hm).ext hx (hg.words m hm) λ_ _ hf=>.inr hf⟩
 .obtain⟨q,hq,c1,c2,c3,c4,c5,c6⟩:=h.made σ v hv;obtain⟨r,hr,t1,t2,t3,t4,t5,t6⟩:=hx.calls q hq;exact⟨r,hr,t1.trans c1,t2.trans c2,t3.trans c3,by rw[t4];exact c4,t5.trans c5,t6.trans c6⟩
 .rcases jB q hq with rfl|hq
  .exact hp.done
  exact h.done q hq
 .rcases jB q hq with rfl|hq
  .show l9 w q.aq.toNat q.ctx;rw[s1,s6];exact h.ctx _ JM
  exact h.ctx q hq
 .show l9 w k (ab l k);rcases hl with⟨_,rfl⟩|⟨he,rfl⟩
  .exact h.seen k hk
  rw[jh (by rw[h.bD.seen,s1];exact aQ.1)];split
  .rename_i e;rw[e];exact hp.kd he
  exact h.seen k hk
 .rcases jB q hq with rfl|hq
  .exact hp.aA.ext hx
  exact(h.aA q hq).ext hx
 .have sY:j<w.calls.length:=by have:j<(w.calls.set i p).length:=hj;rwa[List.length_set] at this
  have hec:∀k,(ab (w.calls.set i p) k).aq=(ab w.calls k).aq:=λk=>by
   rw[jh hi];split
   .rename_i e;subst e;exact s1
   rfl
  have hex:∀k,(ab (w.calls.set i p) k).ctx=(ab w.calls k).ctx:=λk=>by
   rw[jh hi];split
   .rename_i e;subst e;exact s6
   rfl
  have hn:uV {w with calls:=w.calls.set i p,seen:=l} j=if 0<=j5 w.calls j (ab w.calls j).aq then(ab w.calls (j+1+(j5 w.calls j (ab w.calls j).aq).toNat)).ctx else ab l (ab w.calls j).aq.toNat:=by
   unfold uV;dsimp only;rw[hec,aak hi s1,hex]
  rw[hn];show gx (ab (w.calls.set i p) j)=_;rw[jh hi];split
  .rename_i e;subst e;rw[if_neg (by have:=HW (l:=w.calls) (i:=j) (x:=(ab w.calls j).aq) λk h1 h2=>Jg h.bD hw h1 h2;omega)];rcases hl with⟨he,rfl⟩|⟨he,rfl⟩
   .have hold:=h.kd j sY;have e0:gx p=p.ctx:=by unfold gx;rw[if_pos he]
    have e1:gx (ab w.calls j)=(ab w.calls j).ctx:=by unfold gx;rw[if_pos (sa hw).1]
    rw[e0,s6,<-e1,hold];unfold uV;rw[if_neg (by have:=HW (l:=w.calls) (i:=j) (x:=(ab w.calls j).aq) λk h1 h2=>Jg h.bD hw h1 h2;omega)]
   rw[jh (by rw[h.bD.seen,s1];exact aQ.1),if_pos (by rw[s1])]
  rename_i e;have hold:=h.kd j sY;rw[hold];unfold uV;split
  .rfl
  rename_i hnn;rcases hl with⟨he,rfl⟩|⟨he,rfl⟩
  .rfl
  rw[jh (by rw[h.bD.seen,s1];exact aQ.1),if_neg];intro e2;have hcj:=Jh h.bD (bB sY);have e3:(ab w.calls j).aq=(ab w.calls i).aq:=by rw[s1] at e2;omega
  rcases Nat.lt_or_gt_of_ne e with bK|bK
  .exact aal om bK hi e3.symm
  exact Jg h.bD hw bK sY e3
 have JN:∀q∈w.calls,q.aq≠(k:Int):=λq hq e=>by
  obtain⟨r,hr,t1,_⟩:=hx.calls q hq;exact km r hr (t1.trans e)
 show ab l k=[];rcases hl with⟨_,rfl⟩|⟨he,rfl⟩
 .exact h.fresh k hk JN
 rw[jh (by rw[h.bD.seen,s1];exact aQ.1),if_neg]
 .exact h.fresh k hk JN
 intro e;have:=JN _ JM;rw[s1] at e;omega
def Inv.begin {w:aI} (h:Inv w) {e:Ev} (hc:fC e.aq=true) (hg:cy {w with calls:=w.calls++[jj w e]}):Inv {w with calls:=w.calls++[jj w e]}:=by
 have jB:=sd.1 hc;have hx:Ext w {w with calls:=w.calls++[jj w e]}:=⟨λh=>h,λh=>h,λ_ _ _ _=>Int.le_refl _,λq hq=>⟨q,List.mem_append_left _ hq,kQ.refl q⟩⟩;have hm:∀q∈w.calls++[jj w e],q∈w.calls\/q=jj w e:=λq hq=>by
  rcases List.mem_append.1 hq with hq|hq
  .exact .inl hq
  exact .inr (by simpa using hq)
 refine⟨hg,h.fits,h.qe,h.rl,h.BY,h.rm,h.bj,h.aD,h.rn,h.home,h.uniq,h.once,λσ v hv=>?_,λq hq=>?_,λq hq=>?_,h.seen,λq hq=>?_,λj hj=>?_,λk hk km=>h.fresh k hk λq hq=>km q (List.mem_append_left _ hq),λm hm=>(h.words m hm).ext hx (hg.words m hm) λ_ _ hf=>.inr hf⟩
 .obtain⟨q,hq,c⟩:=h.made σ v hv;exact⟨q,List.mem_append_left _ hq,c⟩
 .rcases hm q hq with hq|rfl
  .exact h.done q hq
  exactλ_ e=>absurd rfl e
 .rcases hm q hq with hq|rfl
  .exact h.ctx q hq
  exact h.seen _ (by show e.aq.toNat<2;omega)
 .rcases hm q hq with hq|rfl
  .exact(h.aA q hq).ext hx
  refine⟨λa ha=>by simp[jj,yD] at ha,λa ha=>by simp[jj,yD] at ha,λ_ hl=>?_⟩;have:(lJ e).length=0:=by have:0=(lJ e).length:=hl;omega
  simp[lJ] at this
 show gx (ab (w.calls++[jj w e]) j)=uV {w with calls:=w.calls++[jj w e]} j;unfold uV;dsimp only;have sY:j<w.calls.length+1:=by have:j<(w.calls++[jj w e]).length:=hj;simpa using this
 rcases Nat.lt_or_ge j w.calls.length with bK|uq
 .rw[HF bK,h.kd j bK,abb bK];unfold uV;by_cases hn:0<=j5 w.calls j (ab w.calls j).aq
  .rw[if_pos hn,if_pos hn,if_pos hn,HF (PZ hn).1]
  rw[if_neg hn,if_neg hn];by_cases uc:(jj w e).aq=(ab w.calls j).aq
  .rw[if_pos uc,if_pos (Int.natCast_nonneg _),Int.toNat_natCast,show j+1+(w.calls.length-(j+1))=w.calls.length by omega,OD];show ab w.seen _=ab w.seen e.aq.toNat;rw[<-uc];rfl
  rw[if_neg uc,if_neg om]
 have:j=w.calls.length:=by omega
 subst this;rw[OD,if_neg]
 .show gx (jj w e)=ab w.seen e.aq.toNat;rfl
 have:=HW (l:=w.calls++[jj w e]) (i:=w.calls.length) (x:=(jj w e).aq) λk h1 h2=>by
  rw[List.length_append,List.length_singleton] at h2;omega
 omega
def Inv.answer {w:aI} (h:Inv w) {m:az} (g:eU w m):Inv (lu w m):=by
 have hg:=Sv h.bD m;unfold lu at hg⊢;dsimp only at hg⊢;split
 .exact h
 rename_i hn;rw[if_neg hn] at hg;obtain⟨h1,h2,h3⟩:=qS (l:=w.calls) (aq:=m.to-10) om;have hc:=adZ h (bB h1) h3 g;have lU:∀p:Call,dS p w.time->¬0<p.end_->p.end_=0:=λp hp hn=>by
  apply Classical.byContradiction;intro e;have:=(hp.ended e).2.1;have:=hp.bE;omega
 split
 .rename_i he;rw[if_pos he] at hg;have e1:(m.to-10).toNat=(dG (ab w.calls (cA w.calls (m.to-10)).toNat) m w.time).aq.toNat:=by rw[hc.same.1,h2]
  rw[e1] at hg⊢;exact h.JL h1 h3 hc (.inr ⟨by omega,rfl⟩) hg
 rename_i he;rw[if_neg he] at hg;exact h.JL h1 h3 hc (.inl ⟨lU _ (zB (h.bD.call h1)) he,rfl⟩) hg
def ad3 {w:aI} (h:Inv w) {q:Call} (hq:q∈w.calls):∀m∈jH q,eU w m:=by
 intro m hm;unfold jH at hm;split at hm
 .obtain⟨ws,h1,h2⟩:=List.mem_flatten.1 hm;obtain⟨x,hx,rfl⟩:=List.mem_map.1 h1;have hc:=Jh h.bD hq;have iY:m.aU=10+q.aq/\q.num=m.call/\m.to/2=q.aq/\m.kind=x.kind/\m.key=x.key/\m.val=x.val/\m.aR=x.aR:=by
   unfold jS at h2;rcases List.mem_cons.1 h2 with rfl|h2
   .exact⟨rfl,rfl,by show 2*q.aq/2=_;omega,rfl,rfl,rfl,rfl⟩
   obtain rfl:m=_:=by simpa using h2
   exact⟨rfl,rfl,by show(2*q.aq+1)/2=_;omega,rfl,rfl,rfl,rfl⟩
  obtain⟨t1,t2,t3,t4,t5,t6,t7⟩:=iY;unfold asks at hx;split at hx
  .rename_i hk;obtain rfl:x=_:=by simpa using hx
   exact acb t4 ⟨q,hq,t1,t2,t3,hk,t5.symm,t6.symm,t7.symm⟩
  rcases List.mem_append.1 hx with hx|hx
  .obtain⟨k,_,rfl⟩:=List.mem_map.1 hx;exact Sd t4 ⟨q,hq,t1,t2,t3⟩
  obtain⟨k,_,rfl⟩:=List.mem_map.1 hx;exact Sd t4 ⟨q,hq,t1,t2,t3⟩
 simp at hm
def Inv.send {w:aI} (h:Inv w) {ws:List az} (al:∀m∈ws,bM m=true) (hw:∀m∈ws,eU w m):Inv {w with au:=eB w.au ws}:=
 h.frame rfl rfl rfl (h.bD.send al) λm hm=>by
  rcases acV hm with hm|hm
  .exact h.words m hm
  exact hw m hm
def SR {w:aI} {i:Nat} (hi:i<4) {s:Server} (U:sv w i=s) (kv:s.site=(i:Int)) {slot:Int} (h0:0<=slot) (be:(ab s.aF slot.toNat).dy=2):eU w (gi s slot):=by
 refine ab8 rfl ?_;have e:(gi s slot).aU.toNat=i:=by show s.site.toNat=i;rw[kv];omega
 rw[e,U];exact⟨hi,.inr (ZC h0 be)⟩
def ad4 {w:aI} (h:Inv w) {i:Nat} (hi:i<4):∀m∈kT (sv w i),eU w m:=by
 have U:=h.gT hi;have kv:=h.site hi;intro m hm;unfold kT at hm;split at hm
 .rcases List.mem_append.1 hm with hm|hm
  .rcases List.mem_append.1 hm with hm|hm
   .obtain⟨k,hk,rfl⟩:=List.mem_map.1 hm;have fZ:=(List.mem_filter.1 hk).2;exact SR hi rfl kv (Int.natCast_nonneg _) (by rw[Int.toNat_natCast];simpa using fZ)
   obtain⟨ws,h1,h2⟩:=List.mem_flatten.1 hm;obtain⟨d,hd,rfl⟩:=List.mem_map.1 h1;obtain⟨x,hx,e⟩:=U.pf d hd;have hv:∃v,iI (sv w i).an d=some v:=by
    have:=X4 (sv w i).an d;rw[show decide (0<=placeOf (sv w i).an d)=true from decide_eq_true (wZ.2 ⟨x,hx,e⟩)] at this;exact Option.isSome_iff_exists.1 this
   obtain⟨v,hv⟩:=hv;have iK:=Bu hv;have ho:=h.aD i hi d hd;have key:∀t:Int,eU w {cn with kind:=5,aU:=(sv w i).site,to:=t,an:=(iI (sv w i).an d).toList}:=λt=>by
    refine adF rfl ⟨v,by show(iI (sv w i).an d).toList=[v];rw[hv];rfl,?_,?_⟩
    .show cF w ((sv w i).site/2).toNat v;rw[kv,show((i:Int)/2).toNat=i/2 by omega];exact cF.here hi iK.1
    show bP v.ar.site=(sv w i).site/2;rw[show v.ar=d.ar from congrArg ao.ar iK.2,ho,kv];omega
   unfold j8 at h2;split at h2
   .rcases List.mem_cons.1 h2 with rfl|h2
    .exact key _
    obtain rfl:m=_:=by simpa using h2
    exact key _
   simp at h2
  obtain⟨d,_,rfl⟩:=List.mem_map.1 hm;exact ab6 rfl
 simp at hm
def ad5 {w:aI} (h:Inv w) {i:Nat} (hi:i<4):nG w i (pU (sv w i)) none:=
 ⟨Ph (h.gT hi),rfl,rfl,λv hv=>hv,λv hv=>.inr hv,λv hv=>.inl hv,λv hv=>.inl hv,λv hv _=>hv,λd hd=>.inl hd,λd hd=>.inl hd,λd hd=>.inl hd,λv e=>by cases e⟩
def ad6 {w:aI} (h:Inv w) {i:Nat} (hi:i<4):nG w i (ll (sv w i)) none:=
 ⟨Qt (h.gT hi),rfl,rfl,λv hv=>hv,λv hv=>.inr hv,λv hv=>.inl hv,λv hv=>.inl hv,λv hv _=>hv,λd hd=>absurd hd (by simp[ll]),λd hd=>.inl hd,λd hd=>.inl hd,λv e=>by cases e⟩
def Inv.server {w:aI} (h:Inv w) (e:Ev) (ha:cO e.at_=true):Inv (fl w e).1:=by
 obtain⟨hi,_,_,hn⟩:=DA ha;have zF:=h.gT hi;have kv:=h.site hi;unfold fl;dsimp only;split
 .exact(ad5 h hi).inv h hi
 split
 .exact(ad6 h hi).inv h hi
 split
 .exact h.send (EO zF) (ad4 h hi)
 split
 .rename_i hk;obtain⟨_,h0,h2,h1,h9⟩:=uT hk;have tr:=adC h hi hk;have h3:=tr.inv h hi om;have be:(ab (kO (sv w e.at_.toNat) e.slot).aF e.slot.toNat).dy=2:=by
   show(ab ((sv w e.at_.toNat).aF.set e.slot.toNat _) e.slot.toNat).dy=2;rw[jh (by rw[zF.aF];omega),if_pos rfl]
  refine h3.send (ws:=[gi (kO (sv w e.at_.toNat) e.slot) e.slot]) (λm hm=>?_) λm hm=>?_
  .obtain rfl:m=_:=by simpa using hm
   exact Em (za zF hk) h0 h2
  obtain rfl:m=_:=by simpa using hm
  exact SR (s:=kO (sv w e.at_.toNat) e.slot) hi (nD h.bD hi _) kv h0 be
 exact h
def Inv.au {w:aI} (h:Inv w) (e:Ev):Inv (iu w e).1:=by
 unfold iu;split
 .rename_i hr;simp only[aS,Bool.and_eq_true,decide_eq_true_eq] at hr;have kD:ab w.au e.word.toNat∈w.au:=bB om;have hm:=h.bD.words _ kD;have SS:=h.words _ kD;have h1:Inv (if e.kind=5\/e.hO=0 then{w with au:=w.au.take e.word.toNat++w.au.drop (e.word.toNat+1)} else w):=by
   split
   .have U:=yZ w.au e.word.toNat;exact h.frame rfl rfl rfl ⟨h.bD.time,h.bD.aw,h.bD.site,Nat.le_trans U.length_le h.bD.au,λm hm=>h.bD.words m (U.subset hm),h.bD.seen,h.bD.kd,h.bD.calls⟩ λm hm=>h.words m (U.subset hm)
   exact h
  have SU:eU (if e.kind=5\/e.hO=0 then{w with au:=w.au.take e.word.toNat++w.au.drop (e.word.toNat+1)} else w) (ab w.au e.word.toNat):=by
   split
   .exact eU.ext (w:=w) (x:={w with au:=w.au.take e.word.toNat++w.au.drop (e.word.toNat+1)}) ⟨λh=>h,λh=>h,λ_ _ _ _=>Int.le_refl _,λq hq=>⟨q,hq,kQ.refl q⟩⟩ hm SS λ_ _ hf=>.inr hf
   exact SS
  have jk:(if e.kind=5\/e.hO=0 then{w with au:=w.au.take e.word.toNat++w.au.drop (e.word.toNat+1)} else w).aw=w.aw:=by split<;>rfl
  dsimp only;generalize (if e.kind=5\/e.hO=0 then{w with au:=w.au.take e.word.toNat++w.au.drop (e.word.toNat+1)} else w)=w1 at*;split
  .exact h1
  split
  .exact h1.answer SU
  rename_i aQ;have iY:0<=(ab w.au e.word.toNat).to/\(ab w.au e.word.toNat).to<=3:=by
   have:=(ny hm).2.2.1;simp only[lF,cO,aS,Bool.or_eq_true,Bool.and_eq_true,decide_eq_true_eq] at this aQ;omega
  have hi:(ab w.au e.word.toNat).to.toNat<4:=by omega
  have hh:=adR h1 hi (m:=ab w.au e.word.toNat) om SU;have hwo:=Se (m:=ab w.au e.word.toNat) (h1.gT hi);have:=hh.inv.send hwo hh.words;rw[<-jk];exact this
 exact h
def Inv.aq {w:aI} (h:Inv w) (e:Ev) (al:(iC w e).2=true):Inv (iC w e).1:=by
 have hg:=RY h.bD e al;unfold iC at*;split at al
 .rename_i hk;rw[if_pos hk] at hg⊢;unfold kb at*;split at al
  .rename_i hc;rw[if_pos hc] at hg⊢;rw[Bool.and_eq_true] at hc;exact h.begin hc.1 hg
  cases al
 rename_i hk;rw[if_neg hk] at hg⊢;dsimp only at al hg⊢;split
 .exact h
 rename_i hn;rw[if_neg hn] at hg;obtain⟨h1,h2,h3⟩:=qS (l:=w.calls) (aq:=e.aq) om;have he:=(sa h3).1;split
 .rename_i ku;rw[if_pos ku] at hg;exact h.JL (p:={ab w.calls (cA w.calls e.aq).toNat with over:=true}) (l:=w.seen) h1 h3 ⟨⟨rfl,rfl,rfl,rfl,rfl,rfl⟩,(h.aA _ (bB h1)).of rfl rfl rfl rfl rfl rfl,λ_ e=>absurd he e,λe=>absurd he e⟩ (.inl ⟨he,rfl⟩) hg
 exact h.send (IJ (h.bD.call h1)) (ad3 h (bB h1))
def Inv.step {w:aI} (h:Inv w) (e:Ev) (al:(cT w e).2=true):Inv (cT w e).1:=by
 have h1:Inv {w with time:=w.time+1}:=h.frame rfl rfl rfl h.bD.later h.words;unfold cT at*;dsimp only at al⊢;split
 .rename_i hk;rw[if_pos hk] at al;exact h1.aq e al
 split
 .exact h1.au e
 split
 .rename_i hk;rw[Bool.and_eq_true] at hk;exact h1.server e hk.2
 exact h1
def ad8 (l:List ao) (d:ao) (hl:bN l=true) (hd:iP d=true):
 iA prog 133 [bw l,d.av] 115 3 ((eS l d).map ao.cells):=by
 refine iA.intro 85 func133 rfl ntmps133 rfl aG (λW I a U=>?_);have ss:=eL hl;have zq:=OH d;refine sr<|U.box rfl .tt λb3 I a w U=>?_;refine aH λI a w U=>?_;refine U.o (.cl (pI ..)) λU=>?_;refine aV λI a w U=>?_;refine U.q .F (.li [_] fE (.u .nil)) λU=>?_;refine U.q .F (.cl (pI [d])) λU=>?_;refine aB λI a w U=>?_;refine U.cd (λae=>?_) λae=>?_
 .exfalso;rw[hl,zq,hd] at ae;cases ae;skip
 refine zt ?_;refine U.l0 λEo I a w U=>?_;refine aN λI a w U=>?_;refine St.lo (σ:=Nat×Bool×List ao×Value×ao) (run 3 5 (run 59 19 [])) ⟨λ⟨k,done,out,v,e⟩=>[(7,AV.int k),(6,AV.bool done),(5,AV.val v)],λ⟨k,done,out,v,e⟩=>[Own.box b3 115 e.cells,Own.row v 115 3 (out.map ao.cells)],λ⟨k,done,out,v,e⟩=>jT l d k done out/\e.key=d.key/\(done=false->e=d)⟩ (λ⟨k,done,out,v,e⟩=>l.length-k) (0,false,[],.slice (some ⟨Eo,0,none⟩) 0 0,d) U ?aL ?bG;case aL=>exact⟨jT.zero l d,rfl,λ_=>rfl⟩
 rintro⟨k,done,out,v,e⟩ I a w al U;obtain⟨hp,jV,rj⟩:=al;have hk:=hp.hk;have jP:=hp.len;have pD:done.toNat<=1:=by cases done<;>simp
 dsimp only at U;refine aY λI a w U=>?_;refine cz (λah=>?_) λah=>?_
 .refine ax λI a w U=>?_;refine cz (λaj=>?_) λaj=>?_
  .refine wp_seq<|wp_seq<|U.dk ?_;refine lh ?_;refine .q .T (CC 0 jF .ag rfl rfl rfl) ?_;refine fD ?_;refine .q .T (.cl (wx ..)) ?_;refine aX ?_;refine .nil ?_;intro I a w U;refine bk ?_;refine cz (λaJ=>?_) λaJ=>?_
   .refine fo λI a w U=>?_;refine U.o (.li [(ab l k).cells] fE (.u .nil)) λU=>?_;refine U.ap 1 λxe a w U=>?_;rw[bV] at U;refine aN λI a w U=>?_;refine AN (λaP=>?_) λaP=>?_
    .exfalso;simp at aP;skip
    refine aN λI a w U=>?_;exact U.ag (k+1,true,out++[ab l k],xe,ab l k) (by obtain⟨h1,h2⟩:=aj;obtain rfl:=rj h1;subst h1;have h:=(hp.same hl ah aJ.1).2;rw[<-DS _ _ aJ.1,if_pos aJ.2] at h;exact⟨h,aJ.1,λh=>by cases h⟩)
   refine aH λI a w U=>?_;refine U.o (.li [e.cells] fE (.u .nil)) λU=>?_;refine U.ap 1 λxe a w U=>?_;rw[bV] at U;refine aN λI a w U=>?_;refine cz (λbn=>?_) λbn=>?_
   .refine bO λI a w U=>?_;refine U.o (.li [(ab l k).cells] fE (.u .nil)) λU=>?_;refine U.ap 1 λxf a w U=>?_;rw[bV] at U;refine aY λI a w U=>?_;exact U.ag (k+1,true,(out++[e])++[ab l k],xf,e) (by obtain⟨h1,h2⟩:=aj;obtain rfl:=rj h1;subst h1;exact⟨hp.before hl ah om,rfl,λh=>by cases h⟩)
   refine aN λI a w U=>?_;exact U.ag (k+1,true,out++[e],xe,e) (by obtain⟨h1,h2⟩:=aj;obtain rfl:=rj h1;subst h1;have h:=(hp.same hl ah bn).2;rw[<-DS _ _ bn,if_neg (by rcases aJ with h4|h4;exact absurd bn h4;rw[h4];simp)] at h;exact⟨h,rfl,λh=>by cases h⟩)
  refine ax λI a w U=>?_;refine oV (λbl=>?_) λbl=>?_
  .refine bO λI a w U=>?_;refine U.o (.li [(ab l k).cells] fE (.u .nil)) λU=>?_;refine U.ap 1 λxf a w U=>?_;rw[bV] at U;refine aY λI a w U=>?_;exact U.ag (k+1,done,out++[ab l k],xf,e) (⟨hp.step ah om λhd=>by(rcases aj with h|h;(rw[hd] at h;cases h);omega),jV,rj⟩)
  exfalso;simp only[bne_eq_false_iff_eq] at bl;rcases aj with h|h;(have:=hp.late h k (Nat.le_refl _) ah;omega);omega
  skip
 refine zt ?_;refine aB λI a w U=>?_;refine cz (λcm=>?_) λcm=>?_
 .refine aH λI a w U=>?_;refine U.o (.li [e.cells] fE (.u .nil)) λU=>?_;refine U.ap 1 λIQ a w U=>?_;rw[bV] at U;refine aN λI a w U=>?_;obtain rfl:=rj cm;subst cm;exact U.qx (r:=4) 1 rfl rfl rfl (congrArg (List.map ao.cells) (hp.qU om))
 refine aB λI a w U=>?_;subst cm;exact U.qx (r:=4) 1 rfl rfl rfl (congrArg (List.map ao.cells) (hp.qT om))
def ad9 (l:List aE) (v:aE) (h:l.length<=1048575) (hd:∀u∈l,u.aR.length<=1048576) (hv:v.aR.length<=1048576):
 iA prog 214 [bQ l,v.av] 62 7 ((pM l v).map aE.cells):=by
 refine iA.intro 46 func214 rfl ntmps214 rfl aG (λW I a U=>?_);refine aB λI a w U=>?_;refine U.l0 λb8 I a w U=>?_;refine aN λI a w U=>?_;refine St.lo (σ:=Nat×Bool×List aE×Value) (run 3 5 (run 29 9 [])) ⟨λ⟨k,done,out,u⟩=>[(7,AV.int k),(6,AV.bool done),(5,AV.val u)],λ⟨k,done,out,u⟩=>[Own.row u 62 7 (out.map aE.cells)],λ⟨k,done,out,u⟩=>lr l v k done out⟩ (λ⟨k,done,out,u⟩=>l.length-k) (0,false,[],.slice (some ⟨b8,0,none⟩) 0 0) U ?aL ?bG;case aL=>exact lr.zero l v
 rintro⟨k,done,out,u⟩ I a w al U;have hp:lr l v k done out:=al;have hk:=hp.hk;have jP:=hp.len;have pD:done.toNat<=1:=by cases done<;>simp
 dsimp only at U;refine aY λI a w U=>?_;refine cz (λae=>?_) λae=>?_
 .refine zt ?_;refine U.dk ?_;refine mB ?_;refine .q .T (.cl (Hh ..)) ?_;refine aX ?_;refine .nil ?_;intro I a w U;refine bk ?_;refine cz (λah=>?_) λah=>?_
  .refine aH λI a w U=>?_;refine U.o (.c1 (lN v hv)) λU=>?_;refine U.o (.li [v.cells] ju (.u .nil)) λU=>?_;refine U.ap 0 λtV a w U=>?_;rw[bV] at U;refine fo λI a w U=>?_;refine U.o (.c1 (lN (ab l k) (hd _ (bB ae)))) λU=>?_;refine U.o (.li [(ab l k).cells] ju (.u .nil)) λU=>?_;refine U.ap 0 λtO a w U=>?_;rw[bV] at U;refine aY λI a w U=>?_;exact U.ag (k+1,true,(out++[v])++[ab l k],tO) (by obtain⟨h1,h2⟩:=ah;subst h1;exact hp.before ae h2)
  refine bO λI a w U=>?_;refine U.o (.c1 (lN (ab l k) (hd _ (bB ae)))) λU=>?_;refine U.o (.li [(ab l k).cells] ju (.u .nil)) λU=>?_;refine U.ap 0 λtO a w U=>?_;rw[bV] at U;refine aY λI a w U=>?_;exact U.ag (k+1,done,out++[ab l k],tO) (hp.step ae (by simpa using ah))
 refine zt ?_;refine aB λI a w U=>?_;refine cz (λaj=>?_) λaj=>?_
 .refine aH λI a w U=>?_;refine U.o (.c1 (lN v hv)) λU=>?_;refine U.o (.li [v.cells] ju (.u .nil)) λU=>?_;refine U.ap 0 λtW a w U=>?_;rw[bV] at U;refine aN λI a w U=>?_;subst aj;exact U.qx (r:=4) 0 rfl rfl rfl (congrArg (List.map aE.cells) (hp.qU om))
 refine aB λI a w U=>?_;subst aj;exact U.qx (r:=4) 0 rfl rfl rfl (congrArg (List.map aE.cells) (hp.qT om))
def SV (l:List aE) (v:aE) (hc:bY l=true):
 bT prog 178 [bQ l,v.av] [] (λ_:Value=>True) (λu=>[Own.row u 62 7 ((if gH l v then eE l v else l).map aE.cells)]) (λu=>AV.db [AV.val u,AV.bool (gH l v)]):=by
 refine bT.intro 37 func178 rfl ntmps178 rfl aG (λW I a U=>?_);have hle:=U.dE (t:=0) rfl;have zc:=gz hc;have dV:=ph hc;refine bz λI a w U=>?_;refine U.o (.cl (tv ..)) λU=>?_;refine ax λI a w U=>?_;refine U.cd (λae=>?_) λae=>?_
 .exfalso;rw[hc] at ae;cases ae;skip
 refine bO λI a w U=>?_;refine U.o (.cl (sj ..)) λU=>?_;refine aV λI a w U=>?_;refine U.alloc rfl bU dR λb6 I a w U=>?_;refine U.sb 0 λU=>?_;obtain⟨I,U⟩:=U.fb 0 6;refine aH λI a w U=>?_;refine U.o (.c1 (Du ..)) λU=>?_;refine mA λI a w U=>?_;refine U.cd (λah=>?_) λah=>?_
 .rw[Eb v hc] at ah;replace ah:=nt ah;refine bA λI a w U=>?_;refine U.lZ (aam l om (λu hu=>by have:=dV u hu;omega)) (ai .r aC) rfl λI JO a w U=>?_;refine aB λI a w U=>?_;refine U.bJ JO [1] rfl (.cons (.t rfl) (.cons (.t rfl) .nil)) trivial (by rw[ah];rfl) (by rw[ah];rfl)
 rw[Eb v hc] at ah;replace ah:=nf ah;refine aH λI a w U=>?_;refine U.lZ (ad9 l v om (λu hu=>by have:=dV u hu;omega) (by have:=eL (DW (rY ah).1);omega)) (ai .r (ai .tt aC)) rfl λI BR a w U=>?_;refine aB λI a w U=>?_;refine U.bJ BR [1] rfl (.cons (.t rfl) (.cons (.t rfl) .nil)) trivial (by rw[ah,<-Ih (pT (rY ah).2.1)];rfl) (by rw[ah];rfl)
def SW (br:Nat) (code:List UInt8) (p:Int) (hp:0<=p/\p<=1099510000000) (aQ:code.length<=1099511627776):
 bT prog 179 [AV.val (.pointer (some ⟨br,0,none⟩))] [Own.box br 100 [cg code,AV.int (p)]] (λr:aE×Int=>si r.1/\p<=r.2/\r.2<=p+30) (λr=>[Own.box br 100 [cg code,AV.int (r.2)]]) (λr=>r.1.av):=by
 refine bT.intro 87 func179 rfl ntmps179 rfl aG (λW I a U=>?_);refine sr<|U.alloc rfl bU dR λb2 I a w U=>?_;refine bA λI a w U=>?_;refine U.bq [0] (eh br code (p) (6) om aQ) (ai .tt (ai .c aC)) rfl aM rfl λ⟨x7,q7⟩ I a w tU U=>?_;replace tU:0<=x7/\(0<(6:Int)->x7<(6))/\q7=p+1:=tU;obtain⟨SX,JP,rfl⟩:=tU;have U:=U.nf;refine U.m λU=>?_;refine U.bq [0] (eh br code (p+1) (9) om aQ) (ai .tt (ai .c aC)) rfl aM rfl λ⟨x9,q9⟩ I a w mU U=>?_;replace mU:0<=x9/\(0<(9:Int)->x9<(9))/\q9=p+1+1:=mU;obtain⟨D4,D5,rfl⟩:=mU;have U:=U.nf;refine aH λI a w U=>?_;refine U.bq [0] (eh br code (p+1+1) (4) om aQ) (ai .tt (ai .c aC)) rfl aM rfl λ⟨JQ,q12⟩ I a w sH U=>?_;replace sH:0<=JQ/\(0<(4:Int)->JQ<(4))/\q12=p+1+1+1:=sH;obtain⟨amH,amI,rfl⟩:=sH;have U:=U.nf;refine U.o (.bd ic (.k (.k aW.nil))) λU=>?_;refine U.m λU=>?_;refine U.bq [0] (eh br code (p+1+1+1) (90) om aQ) (ai .tt (ai .c aC)) rfl aM rfl λ⟨EY,q15⟩ I a w mi U=>?_;replace mi:0<=EY/\(0<(90:Int)->EY<(90))/\q15=p+1+1+1+1:=mi;obtain⟨SY,SZ,rfl⟩:=mi;have U:=U.nf;refine U.m λU=>?_;refine U.bq [0] (eh br code (p+1+1+1+1) (2) om aQ) (ai .tt (ai .c aC)) rfl aM rfl λ⟨sI,zJ⟩ I a w lR U=>?_;replace lR:0<=sI/\(0<(2:Int)->sI<(2))/\zJ=p+1+1+1+1+1:=lR;obtain⟨JR,JS,rfl⟩:=lR;have U:=U.nf;refine U.m λU=>?_;refine U.bq [0] (eh br code (p+1+1+1+1+1) (6) om aQ) (ai .tt (ai .c aC)) rfl aM rfl λ⟨B4,q19⟩ I a w JT U=>?_;replace JT:0<=B4/\(0<(6:Int)->B4<(6))/\q19=p+1+1+1+1+1+1:=JT;obtain⟨S0,amJ,rfl⟩:=JT;have U:=U.nf;refine U.o .GZ λU=>?_;refine U.o (.bd dR (.k (.t (.k (.k (.k aW.nil)))))) λU=>?_;refine U.alloc rfl bU dR λb3 I a w U=>?_;refine aH λI a w U=>?_;refine U.bq [0] (eh br code (p+1+1+1+1+1+1) (4) om aQ) (ai .tt (ai .c aC)) rfl aM rfl λ⟨JU,q23⟩ I a w xB U=>?_;replace xB:0<=JU/\(0<(4:Int)->JU<(4))/\q23=p+1+1+1+1+1+1+1:=xB;obtain⟨aee,S1,rfl⟩:=xB;have U:=U.nf;refine ax λI a w U=>?_;refine St.lo (σ:=Int×aE×Int) (run 2 4 (run 23 24 [])) ⟨λ⟨m,u,p1⟩=>[(4,AV.int m)],λ⟨m,u,p1⟩=>[Own.box br 100 [cg code,AV.int (p1)],Own.box b2 62 [AV.val (.int .i64 0),AV.val (.int .i64 0),AV.val (.int .i64 0),AV.val (.int .i64 0),AV.val (.int .i64 0),AV.val (.int .i64 0),AV.rows 3 []],Own.box b3 62 (u:aE).cells],λ⟨m,u,p1⟩=>bN u.aR=true/\0<=m/\m<=3/\p<=p1/\p1<=p+7+4*(3-m)⟩ (λ⟨m,u,p1⟩=>m.toNat) (JU,⟨x7,⟨1+x9,JQ⟩,EY,sI,1+B4,[]⟩,p+1+1+1+1+1+1+1) U ?aL ?bG;case aL=>exact⟨rfl,aee,by have:=S1 om;omega,by omega,by have:=S1 om;omega⟩
 rintro⟨m,u,p1⟩ I a w al U;obtain⟨hl,CX,S2,JV,yg⟩:=al;dsimp only at U;refine aB λI a w U=>?_;refine cz (λae=>?_) λae=>?_
 .refine bA λI a w U=>?_;refine U.bq [0] (P5 br code p1 om aQ) (ai .tt aC) rfl aM rfl λ⟨d29,q29⟩ I a w JW U=>?_;replace JW:iP d29=true/\q29=p1+3:=JW;obtain⟨S3,rfl⟩:=JW;have U:=U.nf;refine U.alloc rfl cE fh λb5 I a w U=>?_;refine ax λI a w U=>?_;obtain⟨I,U⟩:=U.fb 3 5;refine wj λI a w U=>?_;refine U.GQ 0 (Ma rfl rfl rfl) rfl rfl (cU br code (p1+3) 20 om aQ) (ai .ag (ai .c aC)) λI a w U=>?_;have hq:∀G:Bool,∃p2:Int,(bif G then Own.box br 100 [cg code,AV.int (p1+3+1)] else Own.box br 100 [cg code,AV.int (p1+3)])=Own.box br 100 [cg code,AV.int (p2)]/\p1+3<=p2/\p2<=p1+4:=λG=>by cases G;exact⟨p1+3,rfl,by omega,by omega⟩;exact⟨p1+3+1,rfl,by omega,by omega⟩
  obtain⟨p2,e2,B5,S4⟩:=hq (!decide (d29.ar.time<u.ar.time));change St _ _ [(bif (!decide (d29.ar.time<u.ar.time)) then Own.box br 100 [cg code,AV.int (p1+3+1)] else Own.box br 100 [cg code,AV.int (p1+3)]),Own.box b2 62 [AV.val (.int .i64 0),AV.val (.int .i64 0),AV.val (.int .i64 0),AV.val (.int .i64 0),AV.val (.int .i64 0),AV.val (.int .i64 0),AV.rows 3 []],Own.box b3 62 (u:aE).cells,Own.gone] _ _ _ at U;rw[e2] at U;refine aB λI a w U=>?_;refine U.cd (λah=>?_) λah=>?_
  .refine aV λI a w U=>?_;refine U.o (.cl (En u.aR d29 hl S3)) λU=>?_;refine ct λI a w U=>?_;have U:=U.drop 3;exact U.ag (m-1,{u with aR:=eS u.aR d29},p2) (⟨QJ hl S3,by show 0<=m-1;omega,by show m-1<=3;omega,by show p<=p2;omega,by show p2<=_;omega⟩)
  refine aN λI a w U=>?_;have U:=U.drop 3;exact U.ag (m-1,u,p2) (⟨hl,by show 0<=m-1;omega,by show m-1<=3;omega,by show p<=p2;omega,by show p2<=_;omega⟩)
 refine zt ?_;refine U.m λU=>?_;refine U.bq [0] (eh br code (p1) (24) om aQ) (ai .tt (ai .c aC)) rfl aM rfl λ⟨S5,q48⟩ I a w JX U=>?_;replace JX:0<=S5/\(0<(24:Int)->S5<(24))/\q48=p1+1:=JX;obtain⟨amK,amL,rfl⟩:=JX;have U:=U.nf;refine aB λI a w U=>?_;refine cz (λaj=>?_) λaj=>?_
 .refine St.region ?_;refine U.o (.li (([-1,6]:List Int).map jr) iO (.v (.v .nil))) λU=>?_;refine U.m λU=>?_;refine U.bq [0] (eh br code (p1+1) (2) om aQ) (ai .tt (ai .c aC)) rfl aM rfl λ⟨vy,JY⟩ I a w qf U=>?_;replace qf:0<=vy/\(0<(2:Int)->vy<(2))/\JY=p1+1+1:=qf;obtain⟨aeh,aei,rfl⟩:=qf;have U:=U.nf;refine U.o ((by first|exact dW cH cx .tt .tt (λ_=>by simp only[List.length_map,List.length_cons,List.length_nil];omega)|exact fe cH cx .tt .tt (λ_=>by simp only[List.length_map,List.length_cons,List.length_nil];omega)|exact fm cH cx .tt .tt (λ_=>by simp only[List.length_map,List.length_cons,List.length_nil];omega))) λU=>?_;refine ct λI a w U=>?_;have jN:si ({u with key:=ab ([-1,6]:List Int) vy.toNat}):=eL hl;refine U.bJ ({u with key:=ab ([-1,6]:List Int) vy.toNat},p1+1+1) [0] rfl (.cons (.sx 1) .nil) (by dsimp only;exact⟨jN,by omega,by omega⟩) rfl rfl
 refine aB λI a w U=>?_;refine cz (λaJ=>?_) λaJ=>?_
 .refine bA λI a w U=>?_;refine U.bq [0] (Bq br code (p1+1) om aQ) (ai .tt aC) rfl aM rfl λ⟨S6,JZ⟩ I a w S7 U=>?_;replace S7:p1+1<=JZ/\JZ<=p1+1+4:=S7;refine U.o .fv λU=>U.pB 2 jF .tt .tt rfl rfl rfl λa w U=>?_;refine aB λI a w U=>?_;have jN:si ({u with ar:=S6}):=eL hl;refine U.bJ ({u with ar:=S6},JZ) [0] rfl (.cons (.sx 1) .nil) (by dsimp only;exact⟨jN,by omega,by omega⟩) rfl rfl
 refine aB λI a w U=>?_;refine cz (λaP=>?_) λaP=>?_
 .refine St.region ?_;refine U.o (.li (([-1,9999,10000]:List Int).map jr) iO (.v (.v (.v .nil)))) λU=>?_;refine U.m λU=>?_;refine U.bq [0] (eh br code (p1+1) (3) om aQ) (ai .tt (ai .c aC)) rfl aM rfl λ⟨EZ,q66⟩ I a w J0 U=>?_;replace J0:0<=EZ/\(0<(3:Int)->EZ<(3))/\q66=p1+1+1:=J0;obtain⟨amM,amN,rfl⟩:=J0;have U:=U.nf;refine U.o ((by first|exact dW cH cx .tt .tt (λ_=>by simp only[List.length_map,List.length_cons,List.length_nil];omega)|exact fe cH cx .tt .tt (λ_=>by simp only[List.length_map,List.length_cons,List.length_nil];omega)|exact fm cH cx .tt .tt (λ_=>by simp only[List.length_map,List.length_cons,List.length_nil];omega))) λU=>?_;refine ct λI a w U=>?_;have jN:si ({u with val:=ab ([-1,9999,10000]:List Int) EZ.toNat}):=eL hl;refine U.bJ ({u with val:=ab ([-1,9999,10000]:List Int) EZ.toNat},p1+1+1) [0] rfl (.cons (.sx 1) .nil) (by dsimp only;exact⟨jN,by omega,by omega⟩) rfl rfl
 refine aB λI a w U=>?_;refine cz (λbn=>?_) λbn=>?_
 .refine St.region ?_;refine U.o (.li (([0,99,100]:List Int).map jr) iO (.v (.v (.v .nil)))) λU=>?_;refine U.m λU=>?_;refine U.bq [0] (eh br code (p1+1) (3) om aQ) (ai .tt (ai .c aC)) rfl aM rfl λ⟨E0,q74⟩ I a w xC U=>?_;replace xC:0<=E0/\(0<(3:Int)->E0<(3))/\q74=p1+1+1:=xC;obtain⟨amO,amP,rfl⟩:=xC;have U:=U.nf;refine U.o ((by first|exact dW cH cx .tt .tt (λ_=>by simp only[List.length_map,List.length_cons,List.length_nil];omega)|exact fe cH cx .tt .tt (λ_=>by simp only[List.length_map,List.length_cons,List.length_nil];omega)|exact fm cH cx .tt .tt (λ_=>by simp only[List.length_map,List.length_cons,List.length_nil];omega))) λU=>?_;refine ct λI a w U=>?_;have jN:si ({u with call:=ab ([0,99,100]:List Int) E0.toNat}):=eL hl;refine U.bJ ({u with call:=ab ([0,99,100]:List Int) E0.toNat},p1+1+1) [0] rfl (.cons (.sx 1) .nil) (by dsimp only;exact⟨jN,by omega,by omega⟩) rfl rfl
 refine aB λI a w U=>?_;refine cz (λbl=>?_) λbl=>?_
 .refine St.region ?_;refine U.o (.li (([-1,2]:List Int).map jr) iO (.v (.v .nil))) λU=>?_;refine U.m λU=>?_;refine U.bq [0] (eh br code (p1+1) (2) om aQ) (ai .tt (ai .c aC)) rfl aM rfl λ⟨E1,q82⟩ I a w J1 U=>?_;replace J1:0<=E1/\(0<(2:Int)->E1<(2))/\q82=p1+1+1:=J1;obtain⟨amQ,amR,rfl⟩:=J1;have U:=U.nf;refine U.o ((by first|exact dW cH cx .tt .tt (λ_=>by simp only[List.length_map,List.length_cons,List.length_nil];omega)|exact fe cH cx .tt .tt (λ_=>by simp only[List.length_map,List.length_cons,List.length_nil];omega)|exact fm cH cx .tt .tt (λ_=>by simp only[List.length_map,List.length_cons,List.length_nil];omega))) λU=>?_;refine ct λI a w U=>?_;have jN:si ({u with aq:=ab ([-1,2]:List Int) E1.toNat}):=eL hl;refine U.bJ ({u with aq:=ab ([-1,2]:List Int) E1.toNat},p1+1+1) [0] rfl (.cons (.sx 1) .nil) (by dsimp only;exact⟨jN,by omega,by omega⟩) rfl rfl
 refine aB λI a w U=>?_;have jN:si (u):=eL hl;refine U.bJ (u,p1+1) [0] rfl (.cons (.sx 1) .nil) (by dsimp only;exact⟨jN,by omega,by omega⟩) rfl rfl
end Go.Proofs.YtdanidpleofjgaaGreat
