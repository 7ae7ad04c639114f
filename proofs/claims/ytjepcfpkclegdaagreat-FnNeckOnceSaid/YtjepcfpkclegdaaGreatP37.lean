/- Part 37: contracts of functions, plain facts. -/
import Derived.Test.YtjepcfpkclegdaaGreatP32
import Derived.Test.YtjepcfpkclegdaaGreatP33
set_option linter.unusedVariables false
set_option linter.unusedSimpArgs false
set_option maxRecDepth 100000
set_option maxHeartbeats 4000000
namespace Go.Proofs.YtjepcfpkclegdaaGreat
open Go Go.RowKit
attribute [local irreducible] wpList Code.wp Ok
theorem agH {w:aE} (h:Inv w) {i:Nat} (hi:i<4) {m:aC} (hm:bO m=true) (g:eN w m) (hk:m.kind=1) (ke:m.to=(i:Int)) (n7:1<=m.call) (ho:gv (sv w i) m.key=true)
 (hn:kG (sv w i) m.key (m.aR-10) m.call=none) (kY:j9 (kj (sv w i) m)=true) (RQ:jw (sv w i).ao (fm (sv w i) m)=true) (hl:(sv w i).aD.length<80):
 oI w i {(sv w i) with ao:=fk (sv w i).ao (fm (sv w i) m),aD:=ef (sv w i).aD (fm (sv w i) m).aT} (some (fm (sv w i) m))/\(fm (sv w i) m).an=((i/2:Nat):Int):=by
 obtain⟨q,hq,a1,a2,a3,a4,a5,a6,a7⟩:=g.k1 hk
 have U:=h.dj hi
 obtain⟨b1,b2,b3⟩:=DK U hm kY
 have bc:=(w6 ho).2
 have kq:=h.site hi
 have Ex:q.an=((i/2:Nat):Int):=by rw[<-a3,ke];omega
 have zf:(fm (sv w i) m).an=((i/2:Nat):Int):=by show m.aR-10=_;omega
 have rB:bL (fm (sv w i) m).aq.site=((i/2:Nat):Int):=by rw[b1,kq];exact C9 hi
 have Bz:q.an.toNat=i/2:=by omega
 refine⟨⟨U.put RQ (by rw[b1]) (by show dX (sv w i) m.key≠0;omega) hl,rfl,rfl,λv hv=>gS.2 (.inr hv),λv hv=>.inr hv,λv hv=>?_,λv hv=>.inl hv,λv hv _=>hv,λd hd=>.inl hd,λd hd=>?_,λd hd=>.inl (yX.2 (.inr hd)),λv e=>?_⟩,zf⟩
 ·rcases gS.1 hv with rfl|hv
  ·right
   refine⟨bc,λd hd=>?_,.inr rfl⟩
   have bB:=h.ctx q hq
   rw[a7,Bz] at bB
   obtain⟨u,e1,e2,_⟩:=bB d hd
   exact⟨u,e2,e1⟩
  ·exact .inl hv
 ·rcases yX.1 hd with rfl|hd
  ·exact .inr ⟨_,rfl,rfl⟩
  ·exact .inl hd
 ·have e:=Option.some.inj e
  subst e
  refine⟨gS.2 (.inl rfl),yX.2 (.inl rfl),bc,by rw[rB,zf],zf,λσ u hu=>?_,q,hq,by rw[Ex,zf],a2,a4,a5,a6,a7⟩
  have Ey:=h.home σ u hu
  constructor
  ·intro e
   have e1:u.aq=(fm (sv w i) m).aq:=congrArg au.aq e
   have e2:u.key=m.key:=congrArg au.key e
   have huc:u.an.toNat=i/2:=by rw[<-Ey.1,e1,rB];omega
   have tW:=Ey.2
   rw[huc] at tW
   have:=h.owner hi tW (by rw[e2];exact bc)
   exact pQ (vb RQ).2.1 u this e
  ·rintro⟨e1,e2⟩
   have uF:u.an=((i/2:Nat):Int):=e1.trans zf
   have tW:=Ey.2
   rw[show u.an.toNat=i/2 by omega] at tW
   obtain⟨p,hp,c1,c2,c3,c4,_⟩:=h.made σ u hu
   have ur:p=q:=Bj h.aW hp hq (by rw[c1,uF,Ex]) (by rw[c2,e2];exact a2.symm)
   rw[ur,a5] at c4
   have jt:=h.owner hi tW (by rw[<-c4];exact bc)
   have:=ac5 hn jt
   have h3:u.an=m.aR-10:=e1
   have h4:u.call=m.call:=e2
   have h5:bL u.aq.site=bL (sv w i).site:=by rw[Ey.1,uF,kq,C9 hi]
   unfold o4 at this
   rw[h3,h4,h5,<-c4] at this
   simp at this
theorem agJ {w:aE} (h:Inv w) {i:Nat} (hi:i<4) {m:aC} (hm:bO m=true) (g:eN w m) (hk:m.kind=3) (ke:m.to=(i:Int)):∀x∈jm (sv w i) m,eN w x:=by
 obtain⟨q,hq,a1,a2,a3⟩:=g.k3 hk
 have Ex:q.an=((i/2:Nat):Int):=by rw[<-a3,ke];omega
 have Bz:q.an.toNat=i/2:=by omega
 have bB:=h.ctx q hq
 rw[Bz] at bB
 have U:=h.dj hi
 unfold jm
 split
 ·rename_i hc
  simp only[Bool.and_eq_true,decide_eq_true_eq] at hc
  have bc:=(w6 hc.2).2
  have en:∀d∈q.ctx,d.key=m.key->∃u∈(sv w i).ao,u.aT=d:=λd hd e=>by
   obtain⟨u,e1,e2,_⟩:=bB d hd
   exact⟨u,h.owner hi e1 (by rw[show u.key=d.key from congrArg au.key e2,e];exact bc),e2⟩
  split
  ·rename_i hn
   intro x hx
   obtain rfl:x=_:=by simpa using hx
   refine Re rfl ⟨q,hq,a1,a2,λhy=>?_,λhy=>⟨hn,?_⟩⟩
   ·obtain⟨v,hv⟩:=Option.isSome_iff_exists.1 hy
    have jn:=Ay hv
    refine⟨v,by show(fA (sv w i).ao m.key).toList=[v];rw[hv];rfl,jn.2,by rw[Bz];exact bU.here hi jn.1,λ_=>?_,λe=>absurd (hn.symm.trans e) (by decide)⟩
    rcases yG (l:=q.ctx) (key:=m.key) with e|e
    ·show bP v.aq (bx q.ctx m.key)=false
     rw[e];exact OT (gu U.ao v jn.1)
    ·obtain⟨u,hu,e2⟩:=en _ e rfl
     have h1:=Y2 (Hc U.ao) hv hu (congrArg au.key e2)
     have e3:u.aq=bx q.ctx m.key:=congrArg au.aq e2
     show bP v.aq (bx q.ctx m.key)=false
     rw[<-e3];exact h1
   ·have kY:fA (sv w i).ao m.key=none:=by
     cases ht:fA (sv w i).ao m.key with
     |none=>rfl
     |some v=>have:(fA (sv w i).ao m.key).isSome=false:=hy;rw[ht] at this;cases this
    rcases yG (l:=q.ctx) (key:=m.key) with e|e
    ·exact e
    ·obtain⟨u,hu,e2⟩:=en _ e rfl
     exact absurd (congrArg au.key e2) (XG kY hu)
  ·rename_i hn
   split
   ·rename_i v hv
    intro x hx
    obtain rfl:x=_:=by simpa using hx
    have jn:=yS hv
    refine Re rfl ⟨q,hq,a1,a2,λ_=>⟨v,rfl,congrArg au.key jn.2,by rw[Bz];exact bU.here hi jn.1,λe=>absurd e hn,λ_=>congrArg au.aq jn.2⟩,λe=>by cases e⟩
   ·intro x hx;simp at hx
 ·intro x hx;simp at hx
theorem Inv.send {w:aE} (h:Inv w) {ws:List aC} (aj:∀m∈ws,bO m=true) (hw:∀m∈ws,eN w m):Inv {w with ar:=eF w.ar ws}:=
 h.frame rfl rfl rfl (h.aW.send aj) λm hm=>by
  rcases Rr hm with hm|hm
  ·exact h.words m hm
  ·exact hw m hm
theorem Inv.server {w:aE} (h:Inv w) (e:Ev) (ha:cL e.at_=true):Inv (fI w e).1:=by
 obtain⟨hi,_,_,hn⟩:=yC ha
 have zd:=h.dj hi
 have kq:=h.site hi
 unfold fI
 dsimp only
 split
 ·exact(RC h hi).inv h hi
 split
 ·exact(RD h hi).inv h hi
 split
 ·exact h.send (DM zd) (adE h hi)
 split
 ·rename_i hk
  obtain⟨_,h0,h2,h1,h9⟩:=w7 hk
  have tr:=Rz h hi hk
  have h3:=tr.inv h hi (by omega)
  have bc:(ab (ka (sv w e.at_.toNat) e.slot).aG e.slot.toNat).dH=2:=by
   show(ab ((sv w e.at_.toNat).aG.set e.slot.toNat _) e.slot.toNat).dH=2
   rw[ld (by rw[zd.aG];omega),if_pos rfl]
  refine h3.send (ws:=[fM (ka (sv w e.at_.toNat) e.slot) e.slot]) (λm hm=>?_) λm hm=>?_
  ·obtain rfl:m=_:=by simpa using hm
   exact DL (yY zd hk) h0 h2
  ·obtain rfl:m=_:=by simpa using hm
   exact Rs (s:=ka (sv w e.at_.toNat) e.slot) hi (oG h.aW hi _) kq h0 bc
 ·exact h
theorem Inv.an {w:aE} (h:Inv w) (e:Ev) (aj:(jd w e).2=true):Inv (jd w e).1:=by
 have hg:=Q9 h.aW e aj
 unfold jd at*
 split at aj
 ·rename_i hk
  rw[if_pos hk] at hg⊢
  unfold kQ at*
  split at aj
  ·rename_i hc
   rw[if_pos hc] at hg⊢
   rw[Bool.and_eq_true] at hc
   exact h.begin hc.1 hg
  ·cases aj
 ·rename_i hk
  rw[if_neg hk] at hg⊢
  dsimp only at aj hg⊢
  split
  ·exact h
  ·rename_i hn
   rw[if_neg hn] at hg
   obtain⟨h1,h2,h3⟩:=qu (l:=w.calls) (an:=e.an) (by omega)
   have he:=(qp h3).1
   split
   ·rename_i lP
    rw[if_pos lP] at hg
    exact h.Jk (p:={ab w.calls (cq w.calls e.an).toNat with over:=true}) (l:=w.seen) h1 h3 ⟨⟨rfl,rfl,rfl,rfl,rfl,rfl⟩,(h.az _ (aV h1)).of rfl rfl rfl rfl rfl rfl,λ_ e=>absurd he e,λe=>absurd he e⟩ (.inl ⟨he,rfl⟩) hg
   ·exact h.send (IJ (h.aW.call h1)) (adD h (aV h1))
theorem JS {w:aE} (h:Inv w):∀(n:Nat) {i j:Nat},j-i<=n->i<j->j<w.calls.length->(ab w.calls i).an=(ab w.calls j).an->qv (dP (ab w.calls i)) (ab w.calls j).ctx
 |0,i,j,hn,gN,_,_=>by omega
 |n+1,i,j,hn,gN,hj,hc=>by
  have U:=h.jD i (by omega)
  have h0:0<=fF w.calls i (ab w.calls i).an:=by
   rcases Int.lt_or_le (fF w.calls i (ab w.calls i).an) 0 with bw|n6
   ·exact absurd hc.symm (PE bw gN hj)
   ·exact n6
  unfold mC at U
  rw[if_pos h0] at U
  obtain⟨h1,h2⟩:=CJ h0
  generalize hk:i+1+(fF w.calls i (ab w.calls i).an).toNat=k at*
  rw[U]
  rcases Nat.lt_trichotomy k j with bw|rfl|LB
  ·exact yH (I8 (h.aW.call h1)) (JS h n (by omega) bw hj (by rw[h2,hc]))
  ·exactλkey=>uZ _
  ·exfalso
   have:fF w.calls i (ab w.calls i).an<=((j-(i+1):Nat):Int):=by
    unfold fF
    have hp:lK (ab w.calls i).an (ab (w.calls.drop (i+1)) (j-(i+1)))=true:=by
     rw[PC,show i+1+(j-(i+1))=j by omega]
     unfold lK;rw[<-hc];simp
    exact WN (by rw[List.length_drop];omega) hp
   omega
theorem RR {w:aE} (h:Inv w):∀(n:Nat) {i:Nat},w.calls.length-i<=n->i<w.calls.length->qv (dP (ab w.calls i)) (ab w.seen (ab w.calls i).an.toNat)
 |0,i,hn,hi=>by omega
 |n+1,i,hn,hi=>by
  have U:=h.jD i hi
  unfold mC at U
  split at U
  ·rename_i h0
   obtain⟨h1,h2⟩:=CJ h0
   rw[U]
   have:=RR h n (i:=i+1+(fF w.calls i (ab w.calls i).an).toNat) (by omega) h1
   rw[h2] at this
   exact yH (I8 (h.aW.call h1)) this
  ·rw[U];exactλkey=>uZ _
theorem agK {w:aE} (h:Inv w) {i j:Nat} (gN:i<j) (hj:j<w.calls.length) (hc:(ab w.calls i).an=(ab w.calls j).an) (he:(ab w.calls i).end_≠0) {a b:Answer} (ha:a∈(ab w.calls i).az) (hb:b∈(ab w.calls j).az) (hk:a.key=b.key):
 bP b.be.aq a.be.aq=false:=by
 have p7:=h.aW.call (i:=i) (by omega)
 have hgj:=h.aW.call hj
 cases hy:a.yes
 ·rw[u5 (p7.aW a ha) hy];exact Dl (hgj.aW b hb)
 ·have h1:=adF p7 he ha hy
  have h2:=JS h (j-i) (Nat.le_refl _) gN hj hc a.key
  have h3:=(h.az _ (aV hj)).ctx b hb
  rw[<-hk] at h3
  exact qE (qE h1 h2) h3
theorem agM {w:aE} (h:Inv w) {i j:Nat} (gN:i<j) (hj:j<w.calls.length) (hc:(ab w.calls i).an=(ab w.calls j).an) (uv:(ab w.calls i).kind=1) (HJ:(ab w.calls j).kind=1) (rE:(ab w.calls i).end_≠0) (hej:(ab w.calls j).end_≠0)
 (hk:ab (ab w.calls i).keys 0=ab (ab w.calls j).keys 0):bP (ab w.calls i).aq (ab w.calls j).aq=true:=by
 have p7:=h.aW.call (i:=i) (by omega)
 have h1:=ac7 p7 rE uv
 have h2:=JS h (j-i) (Nat.le_refl _) gN hj hc (ab (ab w.calls i).keys 0)
 obtain⟨v,v1,v2,v3,v4,v5⟩:=h.done _ (aV hj) HJ hej
 obtain⟨p,hp,c1,c2,c3,c4,c5,c6⟩:=h.made _ v v1
 have ur:=Bj h.aW hp (aV hj) (by rw[c1,v2]) (by rw[c2,v3])
 subst ur
 have h3:=qE h1 h2
 have U:db (ab w.calls i).aq=true:=by
  have h1:=(p7.ended rE).2.2.2.1 uv
  have h2:=p7.fits
  unfold kx at h2;rw[h1,Bool.false_or] at h2;exact h2
 have ht:=om U
 rcases yG (l:=(ab w.calls j).ctx) (key:=ab (ab w.calls i).keys 0) with e|e
 ·rw[e,GP (om U)] at h3;cases h3
 ·rw[c6] at e h3
  have:(bx v.aO (ab (ab w.calls i).keys 0)).time<v.aq.time:=Pe (h.Bq v1) e
  rw[<-v5]
  simp only[bP,Bool.or_eq_true,Bool.and_eq_true,Bool.or_eq_false_iff,Bool.and_eq_false_iff,decide_eq_true_eq,decide_eq_false_iff_not,beq_iff_eq,beq_eq_false_iff_ne] at h3⊢
  left
  omega
theorem RS {w:aE} (h:Inv w) {q:Call} (hq:q∈w.calls) (hk:q.kind=1) (he:q.end_≠0):∃v,dU (bI w q.an) ⟨ab q.keys 0,q.aq⟩=some v/\v.aO=q.ctx/\v.val=q.val/\v.an=q.an/\v.call=q.num:=by
 obtain⟨v,v1,v2,v3,v4,v5⟩:=h.done _ hq hk he
 obtain⟨p,hp,c1,c2,c3,c4,c5,c6⟩:=h.made _ v v1
 have ur:=Bj h.aW hp hq (by rw[c1,v2]) (by rw[c2,v3])
 subst ur
 have hc:=ui h.aW hq
 have:=ze h hc.1 v1
 rw[hc.2] at this
 refine⟨v,?_,c6.symm,c5.symm,v2,v3⟩
 rw[<-v4,<-v5];exact this
def BA (i:Nat) (s:Server):Prop:=s.waits=[]/\∀v∈s.ao,v.an=((i/2:Nat):Int)
def po (w:aE):Prop:=∀i,i<4->BA i (sv w i)
theorem po.frame {w x:aE} (h:po w) (e:x.ax=w.ax):po x:=λi hi=>by unfold sv;rw[e];exact h i hi
theorem RT {w:aE} (h:Inv w) {i:Nat} (hi:i<w.calls.length) (key:Int):bP (bx (ab w.seen (ab w.calls i).an.toNat) key) (bx (dP (ab w.calls i)) key)=false/\bP (bx (dP (ab w.calls i)) key) (bx (ab w.calls i).ctx key)=false:=
 ⟨RR h w.calls.length (by omega) hi key,I8 (h.aW.call hi) key⟩
end Go.Proofs.YtjepcfpkclegdaaGreat
