/- Part 56: contracts of functions, plain facts. -/
import Derived.Test.YtdanidpleofjgaaGreatP51
import Derived.Test.YtdanidpleofjgaaGreatP54
set_option linter.all false
set_option maxRecDepth 100000
set_option maxHeartbeats 4000000
namespace Go.Proofs.YtdanidpleofjgaaGreat
open Go Go.RowKit Tryz
attribute [local irreducible] wpList Code.wp Ok
def Inv.al {w:aj} (h:Inv w) (e:Ev):Inv (gP w e).1:=by
 unfold gP;split
 .rename_i hr;simp only[aH,Bool.and_eq_true,decide_eq_true_eq] at hr;have dq:ab w.al e.word.toNat∈w.al:=bf om;have hm:=h.aK.words _ dq;have UB:=h.words _ dq;have h1:Inv (if e.kind=5\/e.fe=0 then{w with al:=w.al.take e.word.toNat++w.al.drop (e.word.toNat+1)} else w):=by
   split
   .have U:=xu w.al e.word.toNat;exact h.frame rfl rfl rfl ⟨h.aK.time,h.aK.aA,h.aK.site,Nat.le_trans U.length_le h.aK.al,λm hm=>h.aK.words m (U.subset hm),h.aK.seen,h.aK.kj,h.aK.calls⟩ λm hm=>h.words m (U.subset hm)
   exact h
  have UC:dX (if e.kind=5\/e.fe=0 then{w with al:=w.al.take e.word.toNat++w.al.drop (e.word.toNat+1)} else w) (ab w.al e.word.toNat):=by
   split
   .exact dX.ext (w:=w) (x:={w with al:=w.al.take e.word.toNat++w.al.drop (e.word.toNat+1)}) ⟨λh=>h,λh=>h,λ_ _ _ _=>Int.le_refl _,λq hq=>⟨q,hq,jR.refl q⟩⟩ hm UB λ_ _ hf=>.inr hf
   exact UB
  have fy:(if e.kind=5\/e.fe=0 then{w with al:=w.al.take e.word.toNat++w.al.drop (e.word.toNat+1)} else w).aA=w.aA:=by split<;>rfl
  dsimp only;generalize (if e.kind=5\/e.fe=0 then{w with al:=w.al.take e.word.toNat++w.al.drop (e.word.toNat+1)} else w)=w1 at*;split
  .exact h1
  split
  .exact h1.answer UC
  rename_i bq;have ey:0<=(ab w.al e.word.toNat).to/\(ab w.al e.word.toNat).to<=3:=by
   have:=(kJ hm).2.2.1;simp only[kb,cr,aH,Bool.or_eq_true,Bool.and_eq_true,decide_eq_true_eq] at this bq;omega
  have hi:(ab w.al e.word.toNat).to.toNat<4:=by omega
  have hh:=Un h1 hi (m:=ab w.al e.word.toNat) om UC;have Md:=S6 (m:=ab w.al e.word.toNat) (h1.cQ hi);have:=hh.inv.send Md hh.words;rw[<-fy];exact this
 exact h
def Inv.step {w:aj} (h:Inv w) (e:Ev) (an:(bX w e).2=true):Inv (bX w e).1:=by
 have h1:Inv {w with time:=w.time+1}:=h.frame rfl rfl rfl h.aK.later h.words;unfold bX at*;dsimp only at an⊢;split
 .rename_i hk;rw[if_pos hk] at an;exact h1.ao e an
 split
 .exact h1.al e
 split
 .rename_i hk;rw[Bool.and_eq_true] at hk;exact h1.server e hk.2
 exact h1
def Inv.eL {w:aj} (h:Inv w) (e:Ev):Inv (eL w e).1:=by
 unfold Go.Proofs.YtdanidpleofjgaaGreat.eL;split
 .rename_i hc;exact h.step e hc.2
 exact h
def UD {w:aj} (h:Inv w) (e:Ev) {σ:Nat} {v:aE} (hv:bn w σ v):bn (bX w e).1 σ v:=by
 have h1:Inv {w with time:=w.time+1}:=h.frame rfl rfl rfl h.aK.later h.words;have uB:bn {w with time:=w.time+1} σ v:=hv;have same:∀x:aj,x.aA=w.aA->bn x σ v:=λx hx=>by
  obtain⟨i,a,b,d⟩:=hv;exact⟨i,a,b,by unfold sv at*;rw[hx];exact d⟩
 unfold bX;dsimp only;split
 .apply same;unfold gz jJ;dsimp only;repeat' split
  all_goals rfl
 split
 .unfold gP;dsimp only;split
  .rename_i hr;simp only[aH,Bool.and_eq_true,decide_eq_true_eq] at hr;have dq:ab w.al e.word.toNat∈w.al:=bf om;have hm:=h.aK.words _ dq;split
   .apply same;split<;>rfl
   split
   .apply same;unfold iL;dsimp only;repeat' split
    all_goals rfl
   rename_i bq;have ey:0<=(ab w.al e.word.toNat).to/\(ab w.al e.word.toNat).to<=3:=by
    have:=(kJ hm).2.2.1;simp only[kb,cr,aH,Bool.or_eq_true,Bool.and_eq_true,decide_eq_true_eq] at this bq;omega
   exact(Un h1 (i:=(ab w.al e.word.toNat).to.toNat) om (m:=ab w.al e.word.toNat) om ((h1.words _ dq))).ext.dY uB
  exact hv
 split
 .rename_i hk;rw[Bool.and_eq_true] at hk;obtain⟨hi,_,_,_⟩:=vy hk.2;unfold eN;dsimp only;split
  .exact((TZ h1 hi).ext h1 hi).dY uB
  split
  .exact((T0 h1 hi).ext h1 hi).dY uB
  split
  .exact hv
  split
  .rename_i eH;exact((TY h1 hi eH).ext h1 hi).dY uB
  exact hv
 exact hv
def UF {R:aj->Prop} (h0:R dA) (l:List Ev) (U:∀w e,e∈l->Inv w->w.time<=99999->R w->R (eL w e).1):R (bz l)/\Inv (bz l)/\(bz l).time<=99999:=by
 unfold bz;split
 .exact⟨h0,K8,by decide⟩
 have key:∀(m:List Ev) (w:aj),(∀e∈m,e∈l)->R w->Inv w->w.time<=99999->R (m.foldl (λw e=>(cW w e).1) w)/\Inv (m.foldl (λw e=>(cW w e).1) w)/\(m.foldl (λw e=>(cW w e).1) w).time<=99999:=by
  intro m;induction m with
  |nil=>exactλw _ h1 h2 h3=>⟨h1,h2,h3⟩
  |cons e r ih=>
   intro w hm h1 h2 h3
   rw[List.foldl_cons]
   have e1:cW w e=eL w e:=by unfold cW;rw[if_pos (iy.2 ⟨h2.aK,h3⟩)]
   rw[e1]
   have h4:(eL w e).1.time<=99999:=by
    unfold eL;split
    .rename_i hc;rw[xZ];omega
    exact h3
   exact ih _ (λx hx=>hm x (by simp[hx])) (U w e (hm e bk) h2 h3 h1) (h2.eL e) h4
 exact key l dA (λ_ h=>h) h0 K8 aN
def r6 (l:List Ev):Inv (bz l)/\(bz l).time<=99999:=(UF (R:=λ_=>True) trivial l λ_ _ _ _ _ _=>trivial).2
def ajQ {R:aj->Prop} (h0:R dA) (l:List Ev) (U:∀w e,e∈l->bR w->w.time<=99999->R w->R (eL w e).1):R (bz l)/\ez (bz l)=true:=by
 unfold bz;split
 .exact⟨h0,zU⟩
 have key:∀(m:List Ev) (w:aj),(∀e∈m,e∈l)->R w->ez w=true->R (m.foldl (λw e=>(cW w e).1) w)/\ez (m.foldl (λw e=>(cW w e).1) w)=true:=by
  intro m;induction m with
  |nil=>exactλw _ h1 h2=>⟨h1,h2⟩
  |cons e r ih=>
   intro w hm h1 h2
   rw[List.foldl_cons]
   have e1:cW w e=eL w e:=by unfold cW;rw[if_pos h2]
   rw[e1]
   have hg:=iy.1 h2
   exact ih _ (λx hx=>hm x (by simp[hx])) (U w e (hm e bk) hg.1 hg.2 h1) (zZ h2 e)
 exact key l dA (λ_ h=>h) h0 zU
def wj (l:List Ev):ez (bz l)=true:=(ajQ (R:=λ_=>True) trivial l λ_ _ _ _ _ _=>trivial).2
def ajR (w:aj) (e:Ev):((bX w e).1.aA=w.aA/\sL w.calls (bX w e).1.calls)\/((bX w e).1.calls=w.calls/\∃i s,(bX w e).1.aA=w.aA.set i s):=by
 show _\/((bX w e).1.calls=w.calls/\_);have U:({w with time:=w.time+1}:aj).aA=w.aA:=rfl;have hc:({w with time:=w.time+1}:aj).calls=w.calls:=rfl;unfold bX;dsimp only;revert U hc;generalize ({w with time:=w.time+1}:aj)=x;intro U hc;rw[<-U,<-hc];clear U hc w;split
 .left;unfold gz;split
  .unfold jJ;split
   .exact⟨rfl,.inr (.inl ⟨_,rfl⟩)⟩
   exact⟨rfl,.inl rfl⟩
  dsimp only;split
  .exact⟨rfl,.inl rfl⟩
  rename_i hn;obtain⟨a1,_,a3⟩:=l5 (l:=x.calls) (ao:=e.ao) om;split
  .exact⟨rfl,.inr (.inr ⟨_,_,a1,a3,rfl⟩)⟩
  exact⟨rfl,.inl rfl⟩
 split
 .unfold gP;split
  .have hc:(if e.kind=5\/e.fe=0 then{x with al:=x.al.take e.word.toNat++x.al.drop (e.word.toNat+1)} else x).calls=x.calls:=by split<;>rfl
   have U:(if e.kind=5\/e.fe=0 then{x with al:=x.al.take e.word.toNat++x.al.drop (e.word.toNat+1)} else x).aA=x.aA:=by split<;>rfl
   dsimp only;revert hc U;generalize (if e.kind=5\/e.fe=0 then{x with al:=x.al.take e.word.toNat++x.al.drop (e.word.toNat+1)} else x)=y;intro hc U;split
   .exact .inl ⟨U,.inl hc⟩
   split
   .left;unfold iL;dsimp only;split
    .exact⟨U,.inl hc⟩
    rename_i hn;obtain⟨a1,_,a3⟩:=l5 (l:=y.calls) (ao:=(ab x.al e.word.toNat).to-10) om;have:=hc;split
    .exact⟨U,.inr (.inr ⟨_,_,by rw[<-hc];exact a1,by rw[<-hc];exact a3,by rw[<-hc]⟩)⟩
    exact⟨U,.inr (.inr ⟨_,_,by rw[<-hc];exact a1,by rw[<-hc];exact a3,by rw[<-hc]⟩)⟩
   exact .inr ⟨hc,_,_,rfl⟩
  exact .inl ⟨rfl,.inl rfl⟩
 split
 .unfold eN;dsimp only;split
  .exact .inr ⟨rfl,_,_,rfl⟩
  split
  .exact .inr ⟨rfl,_,_,rfl⟩
  split
  .exact .inl ⟨rfl,.inl rfl⟩
  split
  .exact .inr ⟨rfl,_,_,rfl⟩
  exact .inl ⟨rfl,.inl rfl⟩
 exact .inl ⟨rfl,.inl rfl⟩
def ajS (w:aj) (e:Ev):sL w.calls (bX w e).1.calls:=by
 rcases ajR w e with h|h
 .exact h.2
 exact .inl h.1
def Gu {w:aj} (h:ez w=true) (e:Ev):cW w e=eL w e:=by unfold cW;rw[if_pos h]
def Ad (l:List Ev):zT (bz l):=(iy.1 (wj l)).1.small
def Ae (l:List Ev):(bz l).aA.length=4:=(iy.1 (wj l)).1.aA
def UG {w:aj} (h:Inv w) (e:Ev) {σ:Nat} {v:aE} (hv:bn (bX w e).1 σ v):(∃τ,bn w τ v)\/∃(i:Nat) (m:ax),i<4/\m∈w.al/\m.to=(i:Int)/\FO (sv w i) m v:=by
 have hg:=h.aK;have key:∀{x:aj},x.aA=w.aA->bn x σ v->∃τ,bn w τ v:=λe ⟨i,h1,h2,h3⟩=>by
  refine⟨σ,i,h1,h2,?_⟩;unfold sv at*;rwa[<-e]
 have set:∀{x:aj} {j:Nat} {s:Server},j<4->x.aA=w.aA.set j s->bn x σ v->(∃τ,bn w τ v)\/v∈s.ai:=λ{x j s} hj e ⟨i,h1,h2,h3⟩=>by
  unfold sv at h3;rw[e,eO (by rw[hg.aA];exact hj)] at h3;split at h3
  .exact .inr h3
  exact .inl ⟨_,i,h1,rfl,h3⟩
 revert hv;unfold bX;dsimp only;split
 .intro hv;refine .inl (key ?_ hv);unfold gz;split
  .unfold jJ;split<;>rfl
  dsimp only;split
  .rfl
  split<;>rfl
 split
 .unfold gP;split
  .rename_i hr;simp only[aH,Bool.and_eq_true,decide_eq_true_eq] at hr;have bw:e.word.toNat<w.al.length:=by have:=hr.2;have:=hr.1;show e.word.toNat<w.al.length;omega
   have dq:ab w.al e.word.toNat∈w.al:=bf bw;have hm:=hg.words _ dq;dsimp only;split
   .intro hv;refine .inl (key ?_ hv);split<;>rfl
   split
   .intro hv;refine .inl (key ?_ hv);show(iL _ _).aA=_;rw[FM];split<;>rfl
   rename_i bq;have ey:0<=(ab w.al e.word.toNat).to/\(ab w.al e.word.toNat).to<=3:=by
    have:=(kJ hm).2.2.1;simp only[kb,cr,aH,Bool.or_eq_true,Bool.and_eq_true,decide_eq_true_eq] at this bq;omega
   intro hv;rcases set (j:=(ab w.al e.word.toNat).to.toNat) om rfl hv with h1|h1
   .exact .inl h1
   rcases ahe h (i:=(ab w.al e.word.toNat).to.toNat) om (h.words _ dq) (.inl h1) with h2|h2
   .exact .inl h2
   exact .inr ⟨(ab w.al e.word.toNat).to.toNat,_,by omega,dq,by omega,h2⟩
  exactλhv=>.inl (key rfl hv)
 split
 .rename_i eH;rw[Bool.and_eq_true] at eH;obtain⟨hi,_,_,_⟩:=vy eH.2;have same:∀{x:aj} {s:Server},x.aA=w.aA.set e.at_.toNat s->s.ai=(sv w e.at_.toNat).ai->bn x σ v->∃τ,bn w τ v:=λ{x s} e1 e2 hv=>by
   rcases set hi e1 hv with h1|h1
   .exact h1
   rw[e2] at h1;exact⟨_,.here hi h1⟩
  unfold eN;dsimp only;split
  .exactλhv=>.inl (same (s:=jF (sv w e.at_.toNat)) rfl rfl hv)
  split
  .exactλhv=>.inl (same (s:=ll (sv w e.at_.toNat)) rfl rfl hv)
  split
  .exactλhv=>.inl (key rfl hv)
  split
  .exactλhv=>.inl (same (s:=gV (sv w e.at_.toNat) e.slot) rfl rfl hv)
  exactλhv=>.inl (key rfl hv)
 exactλhv=>.inl (key rfl hv)
def BG.step {w:aj} (h:Inv w) (hg:BG w) (e:Ev):BG (bX w e).1:=λσ v hv=>by
 have fwd:∀τ u,bn w τ u->bn (bX w e).1 τ u:=λτ u hu=>UD h e hu;have up:(v.aq.time=1\/∃τ u,bn w τ u/\u.aq.time=v.aq.time-1)->v.aq.time=1\/∃τ u,bn (bX w e).1 τ u/\u.aq.time=v.aq.time-1:=λh1=>h1.imp id λ⟨τ,u,h2,h3⟩=>⟨τ,u,fwd τ u h2,h3⟩;rcases UG h e hv with⟨τ,h1⟩|⟨i,m,hi,hm,_,hn⟩
 .exact up (hg τ v h1)
 exact up (agS h hi (h.words m hm) hn)
def db:Nat->aj->aj
 |0,w=>w
 |n+1,w=>if w.al.length=0 then w else db n (dQ w)
def fM (w:aj) (i:Nat):aj:=db 1000 (ct w (ev 8 i 0))
def gv (w:aj) (c:Nat):aj:=db 1000 (ct w (ev 2 0 c))
def fN (w:aj):aj:=(List.range 2).foldl gv ((List.range 4).foldl fM (db 1000 (lE w)))
def bA:Nat->aj->aj
 |0,w=>w
 |n+1,w=>if w.time<79999 then bA n (fN w) else w
def UH {w:aj} {m:ax} {r:List ax} (h:w.al=m::r):(bX w (ev 4 0 0)).2=true/\(bX w (ev 4 0 0)).1=if aH m.to 10 11 then iL {w with time:=w.time+1,al:=r} m else
 {w with time:=w.time+1,aA:=w.aA.set m.to.toNat (cK (ab w.aA m.to.toNat) m).1,al:=eo r (cK (ab w.aA m.to.toNat) m).2}:=by
 have e1:aH (ev 4 0 0).word 0 ((({w with time:=w.time+1}:aj).al.length:Int)-1)=true:=by
  show aH 0 0 ((w.al.length:Int)-1)=true;rw[h];simp[aH]
 have e2:ab ({w with time:=w.time+1}:aj).al (ev 4 0 0).word.toNat=m:=by
  show ab w.al 0=m;rw[h];rfl
 unfold bX;dsimp only;rw[if_neg aN,if_pos aN];unfold gP;rw[if_pos e1];dsimp only;rw[e2,if_pos (show(ev 4 0 0).kind=5\/(ev 4 0 0).fe=0 from .inr rfl),if_neg (show¬(ev 4 0 0).kind=5 by decide)];have e3:w.al.take (ev 4 0 0).word.toNat++w.al.drop ((ev 4 0 0).word.toNat+1)=r:=by
  show w.al.take 0++w.al.drop 1=r;rw[h];rfl
 rw[e3];split<;>exact⟨rfl,rfl⟩
def Af {w:aj} {m:ax} {r:List ax} (h:w.al=m::r):dQ w=if aH m.to 10 11 then iL {w with time:=w.time+1,al:=r} m else
 {w with time:=w.time+1,aA:=w.aA.set m.to.toNat (cK (ab w.aA m.to.toNat) m).1,al:=eo r (cK (ab w.aA m.to.toNat) m).2}:=by
 unfold dQ ct;rw[if_pos (UH h).1,(UH h).2]
def tp {w:aj} (h:Inv w) (e:Ev):Inv (ct w e):=by
 unfold ct;split
 .exact h.step e ‹_›
 exact h
def UI (w:aj) (m:ax):(iL w m).al=w.al:=by
 unfold iL;dsimp only;split
 .rfl
 split<;>rfl
def Gv {w:aj} (h:w.al.length<=60) {m:ax} {r:List ax} (hr:w.al=m::r):∃l,(dQ w).al=r++l/\nx l+1<=wt m/\(aH m.to 10 11=false->l=(cK (sv w m.to.toNat) m).2):=by
 rw[Af hr];rw[hr,List.length_cons] at h;split
 .rename_i hc;rw[UI];exact⟨[],by simp,I9 m,λe=>by rw[hc] at e;cases e⟩
 refine⟨(cK (sv w m.to.toNat) m).2,?_,?_,λ_=>rfl⟩
 .show eo r (cK (sv w m.to.toNat) m).2=_;refine El ?_;rcases Tw (sv w m.to.toNat) m with e|⟨_,x,e,_⟩<;>rw[e]<;>simp<;>omega
 rcases Tw (sv w m.to.toNat) m with e|⟨ha,x,e,hx⟩
 .rw[e];exact I9 m
 rw[e];have:wt m=2:=by unfold wt;rw[if_pos ha]
 rw[this,EI,hx];exact Nat.le_refl _
def Me {w:aj} (h:Inv w):Inv (dQ w):=tp h _
def pb {R:aj->Prop} (hR:∀x m r,R x->x.al=m::r->R (dQ x)):∀(n:Nat) {w:aj},R w->R (db n w)
 |0,_,h=>h
 |n+1,w,h=>by
  unfold db;cases hr:w.al with
  |nil=>exact h
  |cons m r=>exact pb hR n (hR w m r h hr)
def Gw:∀(n:Nat) {w:aj},Inv w->nx w.al<=n->(db n w).al=[]/\(db n w).time<=w.time+nx w.al
 |0,w,_,hn=>by
  cases hr:w.al with
  |nil=>exact⟨hr,by show w.time<=_;rw[show nx []=0 from rfl];omega⟩
  |cons m r=>rw[hr,EI] at hn;have:=I9 m;omega
 |n+1,w,h,hn=>by
  unfold db;cases hr:w.al with
  |nil=>exact⟨hr,by show w.time<=_;rw[show nx []=0 from rfl];omega⟩
  |cons m r=>
   obtain⟨l,l1,l2,_⟩:=Gv h.aK.al hr
   have hw:nx (dQ w).al+1<=nx w.al:=by rw[l1,hr,aaE,EI];omega
   obtain⟨b1,b2⟩:=Gw n (Me h) om
   have ht:=nK w (ev 4 0 0)
   refine⟨b1,?_⟩
   show(db n (dQ w)).time<=w.time+(nx (m::r):Nat)
   rw[hr] at hw
   have:(dQ w).time<=w.time+1:=ht
   omega
def Gx {R D:aj->Prop} {Q:ax->Prop} (hI:∀x,R x->Inv x) (hR:∀x m r,R x->x.al=m::r->R (dQ x)) (hD:∀x m r,R x->x.al=m::r->D x->D (dQ x))
 (hQ:∀x m r,R x->x.al=m::r->Q m->D (dQ x)\/∃y∈(dQ x).al,Q y) {w:aj} (h:R w) (h0:D w\/∃y∈w.al,Q y):D (db 1000 w):=by
 have key:∀n {w:aj},R w->(D w\/∃y∈w.al,Q y)->(D (db n w)\/∃y∈(db n w).al,Q y):=by
  intro n;induction n with
  |zero=>exactλ_ h=>h
  |succ n ih=>
   intro w h h0
   unfold db
   cases hr:w.al with
   |nil=>exact h0.imp id λ⟨y,hy,_⟩=>by rw[hr] at hy;simp at hy
   |cons m r=>
    refine ih (hR w m r h hr) ?_
    rcases h0 with h0|⟨y,hy,hq⟩
    .exact .inl (hD w m r h hr h0)
    rw[hr] at hy
    rcases List.mem_cons.1 hy with rfl|hy
    .exact hQ w _ r h hr hq
    obtain⟨l,l1,_⟩:=Gv (hI w h).aK.al hr
    exact .inr ⟨y,by rw[l1];exact List.mem_append_left l hy,hq⟩
 have hw:=I8 w.al;have hl:=(hI w h).aK.al;rcases key 1000 h h0 with h1|⟨y,hy,_⟩
 .exact h1
 rw[(Gw 1000 (hI w h) om).1] at hy;simp at hy
def ajT (w:aj) (b:List Call):Prop:=
 b=w.calls\/(∃e:Ev,fF e.ao=true/\b=w.calls++[iK {w with time:=w.time+1} e])\/
  ∃i,i<w.calls.length/\cD (ab w.calls i)=true/\(b=w.calls.set i {ab w.calls i with over:=true}\/∃m∈w.al,b=w.calls.set i (cP (ab w.calls i) m (w.time+1)))
def ajU (w:aj) (e:Ev):ajT w (bX w e).1.calls:=by
 unfold bX;dsimp only;split
 .unfold gz;split
  .unfold jJ;split
   .rename_i hc;rw[Bool.and_eq_true] at hc;exact .inr (.inl ⟨e,hc.1,rfl⟩)
   exact .inl rfl
  dsimp only;split
  .exact .inl rfl
  rename_i hn;obtain⟨a1,_,a3⟩:=l5 (l:=w.calls) (ao:=e.ao) om;split
  .exact .inr (.inr ⟨_,a1,a3,.inl rfl⟩)
  exact .inl rfl
 split
 .unfold gP;split
  .rename_i hr;simp only[aH,Bool.and_eq_true,decide_eq_true_eq] at hr;have bw:e.word.toNat<w.al.length:=by have:=hr.2;have:=hr.1;show e.word.toNat<w.al.length;omega
   have dq:ab w.al e.word.toNat∈w.al:=bf bw;have hc:(if e.kind=5\/e.fe=0 then({time:=w.time+1,aA:=w.aA,al:=w.al.take e.word.toNat++w.al.drop (e.word.toNat+1),calls:=w.calls,seen:=w.seen}:aj) else{time:=w.time+1,aA:=w.aA,al:=w.al,calls:=w.calls,seen:=w.seen}).calls=w.calls:=by split<;>rfl
   have ht:(if e.kind=5\/e.fe=0 then({time:=w.time+1,aA:=w.aA,al:=w.al.take e.word.toNat++w.al.drop (e.word.toNat+1),calls:=w.calls,seen:=w.seen}:aj) else{time:=w.time+1,aA:=w.aA,al:=w.al,calls:=w.calls,seen:=w.seen}).time=w.time+1:=by split<;>rfl
   dsimp only;revert hc ht;generalize (if e.kind=5\/e.fe=0 then({time:=w.time+1,aA:=w.aA,al:=w.al.take e.word.toNat++w.al.drop (e.word.toNat+1),calls:=w.calls,seen:=w.seen}:aj) else{time:=w.time+1,aA:=w.aA,al:=w.al,calls:=w.calls,seen:=w.seen})=y;intro hc ht;split
   .exact .inl hc
   split
   .unfold iL;dsimp only;split
    .exact .inl hc
    rename_i hn;obtain⟨a1,_,a3⟩:=l5 (l:=y.calls) (ao:=(ab w.al e.word.toNat).to-10) om;rw[hc] at a1 a3;refine .inr (.inr ⟨(bY w.calls ((ab w.al e.word.toNat).to-10)).toNat,a1,a3,.inr ⟨_,dq,?_⟩⟩);split
    .show y.calls.set _ (cP _ _ y.time)=_;rw[hc,ht]
    show y.calls.set _ (cP _ _ y.time)=_;rw[hc,ht]
   exact .inl hc
  exact .inl rfl
 split
 .refine .inl ?_;unfold eN;dsimp only;repeat' split
  all_goals rfl
 exact .inl rfl
def ajV {w:aj} (h:Inv w) (hm:∀q∈w.calls,wa q) (e:Ev):∀q∈(bX w e).1.calls,wa q:=by
 have ht:w.time+1≠0:=by have:=h.aK.time;omega
 have set:∀{i:Nat} {p:Call},wa p->∀q∈w.calls.set i p,wa q:=λ{i p} hp q hq=>by
  rcases sJ hq with rfl|⟨k,hk,_,rfl⟩
  .exact hp
  exact hm _ (bf hk)
 rcases ajU w e with h1|⟨e2,_,h1⟩|⟨i,hi,_,h1|⟨m,_,h1⟩⟩
 .rw[h1];exact hm
 .rw[h1];intro q hq;rcases List.mem_append.1 hq with hq|hq
  .exact hm q hq
  obtain rfl:=List.mem_singleton.1 hq;intro _ _ hl;have:=ZB (e:=e2);have e3:(iK {w with time:=w.time+1} e2).aC.length=0:=rfl;have e4:(iK {w with time:=w.time+1} e2).keys=lq e2:=rfl;rw[e3,e4] at hl;omega
 .rw[h1];exact set λhw=>by have:=(nu hw).2;cases this
 rw[h1];exact set (afS (hm _ (bf hi)) m ht)
def UJ {P:Server->Prop} {w:aj} (h:Inv w) (hm:∀i,i<4->P (sv w i)) (h1:∀s m,P s->P (cK s m).1) (h2:∀s,P s->P (jF s)) (h3:∀s,P s->P (ll s)) (h4:∀s slot,P s->P (gV s slot)) (e:Ev):∀i,i<4->P (sv (bX w e).1 i):=by
 have key:∀{x:aj},x.aA=w.aA->∀i,i<4->P (sv x i):=λe i hi=>by unfold sv;rw[e];exact hm i hi
 have set:∀{x:aj} {j:Nat} {s:Server},j<4->P s->x.aA=w.aA.set j s->∀i,i<4->P (sv x i):=λ{x j s} hj U e i hi=>by
  unfold sv;rw[e,eO (by rw[h.aK.aA];exact hj)];split
  .exact U
  exact hm i hi
 unfold bX;dsimp only;split
 .refine key ?_;unfold gz;split
  .unfold jJ;split<;>rfl
  dsimp only;split
  .rfl
  split<;>rfl
 split
 .unfold gP;split
  .rename_i hr;simp only[aH,Bool.and_eq_true,decide_eq_true_eq] at hr;have bw:e.word.toNat<w.al.length:=by have:=hr.2;have:=hr.1;show e.word.toNat<w.al.length;omega
   have Md:=h.aK.words _ (bf bw);dsimp only;split
   .refine key ?_;split<;>rfl
   split
   .refine key ?_;show(iL _ _).aA=_;rw[FM];split<;>rfl
   rename_i bq;have ey:0<=(ab w.al e.word.toNat).to/\(ab w.al e.word.toNat).to<=3:=by
    have:=(kJ Md).2.2.1;simp only[kb,cr,aH,Bool.or_eq_true,Bool.and_eq_true,decide_eq_true_eq] at this bq;omega
   exact set (j:=(ab w.al e.word.toNat).to.toNat) om (h1 _ _ (hm _ om)) rfl
  exact key rfl
 split
 .rename_i eH;rw[Bool.and_eq_true] at eH;obtain⟨hi,_,_,_⟩:=vy eH.2;have U:=hm _ hi;unfold eN;dsimp only;split
  .exact set hi (h2 _ U) rfl
  split
  .exact set hi (h3 _ U) rfl
  split
  .exact key rfl
  split
  .exact set hi (h4 _ e.slot U) rfl
  exact key rfl
 exact key rfl
def ajW {w:aj} (h:Inv w) (hm:∀i,i<4->xA (sv w i)) (e:Ev):∀i,i<4->xA (sv (bX w e).1 i):=
 UJ h hm (λ_ m U=>agT U m) (λ_ U=>U) (λ_ _ d hd=>by simp[ll] at hd) (λ_ _ U=>U) e
def ajX {w:aj} (h:Inv w) (hm:∀i,i<4->dx (sv w i)<0) (e:Ev):∀i,i<4->dx (sv (bX w e).1 i)<0:=by
 refine UJ (P:=λs=>dx s<0) h hm (λ_ m U=>agU U m) (λs U=>?_) (λs U=>?_) (λs slot U=>?_) e
 .exact Cz (t:=jF s) U rfl rfl λv _=>CA (λe=>e) λd _=>CD rfl λd hd=>hd
 .exact Cz (t:=ll s) U rfl rfl λv _=>CA (λe=>e) λd _=>CD (s:=s) (t:=ll s) rfl λd (hd:d∈([]:List au))=>by simp at hd
 refine Cz (t:=gV s slot) U rfl rfl λv _=>CA (λe=>?_) λd _=>CD rfl λd hd=>hd;unfold cM at*;have e2:∀k,ab (gV s slot).aw k=ab s.aw k\/(ab (gV s slot).aw k).bD=2:=λk=>by
  show ab (s.aw.set slot.toNat ⟨(ab s.aw slot.toNat).ba+1,2⟩) k=_\/(ab (s.aw.set slot.toNat ⟨(ab s.aw slot.toNat).ba+1,2⟩) k).bD=2;rcases Nat.lt_or_ge slot.toNat s.aw.length with hi|hi
  .rw[eO hi];split
   .exact .inr rfl
   exact .inl rfl
  rw[List.set_eq_of_length_le hi];exact .inl rfl
 rcases e2 (cL v.key).toNat with e3|e3
 .rw[e3] at e;exact e
 rw[e3] at e;cases e
def iz.step {w:aj} (h:Inv w) (hm:iz w) (e:Ev):iz (bX w e).1:=⟨hm.KO.step h e,ajW h hm.Tx e,ajV h hm.Tz e,ajX h hm.done e⟩
def iz.eL {w:aj} (h:Inv w) (hm:iz w) (e:Ev):iz (eL w e).1:=by
 unfold Go.Proofs.YtdanidpleofjgaaGreat.eL;split
 .exact hm.step h e
 exact hm
def iz.lift {w:aj} (h:Inv w) (hm:iz w) (e:Ev):iz (ct w e):=by
 unfold ct;split
 .exact hm.step h e
 exact hm
def ajY (l:List Ev):iz (bz l):=(UF (R:=iz) agV l λw e _ h _ hm=>hm.eL h e).1
def CQ:∀(n:Nat) (w:aj),(db n w).time<=w.time+n
 |0,w=>by show w.time<=_;omega
 |n+1,w=>by
  unfold db;split
  .omega
  have h1:=CQ n (dQ w);have h2:(dQ w).time<=w.time+1:=nK w _;omega
def UK (w:aj) (i:Nat):(fM w i).time<=w.time+1001:=by
 have h1:=nK w (ev 8 i 0);have h2:=CQ 1000 (ct w (ev 8 i 0));unfold fM;omega
def UL (w:aj) (c:Nat):(gv w c).time<=w.time+1001:=by
 have h1:=nK w (ev 2 0 c);have h2:=CQ 1000 (ct w (ev 2 0 c));unfold gv;omega
def ajZ (w:aj):(fN w).time<=w.time+7010:=by
 have h0:=ait w;have h1:=CQ 1000 (lE w);have h2:=Em UK (List.range 4) (db 1000 (lE w));have h3:=Em UL (List.range 2) ((List.range 4).foldl fM (db 1000 (lE w)));rw[List.length_range] at h2 h3;unfold fN;omega
def CR {w:aj} (h:w.time<99999) (e:Ev):(eL w e).1=ct w e:=by
 unfold eL ct;by_cases hd:(bX w e).2=true
 .rw[if_pos ⟨h,hd⟩,if_pos hd]
 rw[if_neg (λx=>hd x.2),if_neg hd]
def wk {w:aj} (h:bR w) (ht:w.time<99999) (e:Ev):bR (ct w e):=by
 rw[<-CR ht];exact(iy.1 (zZ (iy.2 ⟨h,by omega⟩) e)).1
def UM:∀(n:Nat) {w:aj},bR w->w.time+n<=99999->bR (db n w)
 |0,_,h,_=>h
 |n+1,w,h,ht=>by
  unfold db;split
  .exact h
  have h2:(dQ w).time<=w.time+1:=nK w _;exact UM n (wk h om _) om
structure Ag (x y:aj) (k:Nat):Prop where
 aK:bR y
 time:y.time<=x.time+k
 rest:db (1000-k) y=db 1000 x
def Ag.next {x y:aj} {k:Nat} (h:Ag x y k) (ht:x.time<=98000) (hk:k<1000) (hr:0<y.al.length):Ag x (ct y (ev 4 0 0)) (k+1):=by
 have h2:(ct y (ev 4 0 0)).time<=y.time+1:=nK y _;have h3:=h.time;refine⟨wk h.aK om _,by omega,?_⟩;rw[<-h.rest,show 1000-k=(1000-(k+1))+1 by omega];show _=(if y.al.length=0 then y else db (1000-(k+1)) (dQ y));rw[if_neg om];rfl
def Ag.stop {x y:aj} {k:Nat} (h:Ag x y k) (hk:¬k<1000\/¬0<y.al.length):y=db 1000 x:=by
 rw[<-h.rest];rcases hk with hk|hk
 .rw[show 1000-k=0 by omega];rfl
 cases 1000-k with
 |zero=>rfl
 |succ n=>unfold db;rw[if_pos om]
def wh.next {f:aj->Nat->aj} {n:Int} {x y:aj} {k:Nat} (h:wh f n x y k) (hg:bR (f y k)) (ht:(f y k).time<=y.time+n):wh f n x (f y k) (k+1):=
 ⟨hg,by have h1:=h.time;have h2:n*((k+1:Nat):Int)=n*k+n:=by rw[Int.natCast_add,Int.mul_add];simp
        omega,by rw[List.range_succ,List.foldl_append,<-h.eq];rfl⟩
def Ah {w:aj} (h:bR w) (ht:w.time<=98000):bR (db 1000 w)/\(db 1000 w).time<=w.time+1000:=⟨UM 1000 h om,CQ 1000 w⟩
structure Ai (m:Nat) (x y:aj) (k:Nat):Prop where
 aK:bR y
 time:y.time<=99999
 rest:bA (m-k) y=bA m x
def UN (y:aj) (k:Nat):db 1000 (ct y (ev 8 k 0))=fM y k:=rfl
def UO (y:aj) (k:Nat):db 1000 (ct y (ev 2 0 k))=gv y k:=rfl
def Mf (x:aj) (hg:bR x) (ht:x.time<=98000):
 Fn prog 126 [x.av] ((db 1000 x).av):=by
 refine Fn.go 21 func126 ntmps126 (λW I a U=>?_);refine sr<|U.box rfl .tt λb1 I a w U=>U.alloc rfl dM ei λb2 I a w U=>?_;refine aB λI a w U=>?_;refine St.lo (σ:=Nat×aj) (run 17 3 []) ⟨λ⟨k,y⟩=>[(3,AV.int k)],λ⟨k,y⟩=>[Own.box b1 28 y.cells,Own.box b2 28 [AV.val (.int .i64 0),AV.rows 7 [],AV.rows 15 [],AV.rows 13 [],AV.rows 1 []]],λ⟨k,y⟩=>k<=1000/\Ag x y k⟩ (λ⟨k,y⟩=>1000-k) (0,x) U ?aJ ?bF;case aJ=>exact⟨by omega,hg,by omega,rfl⟩
 rintro⟨k,y⟩ I a w an U;obtain⟨hk,hp⟩:=an;have Mg:=hp.time;have kr:=hp.aK.al;dsimp only at U;refine py λI a w U=>?_;refine px (λae=>?_) λae=>?_
 .obtain⟨h1,h2⟩:=ae;refine bK λI a w U=>?_;refine U.o (.bd jo (.k bc.nil)) λU=>?_;refine U.o (bT (z9 y (ev 4 0 0) hp.aK om) (az (.t rfl) (az (.t rfl) aI))) λU=>?_;refine jD λI a w U=>?_;rw[CR om] at U;exact U.ag (k+1,ct y (ev 4 0 0)) (⟨by show k+1<=1000;omega,hp.next ht om om⟩)
 simp only[B,Bool.and_eq_false_iff] at ae;refine wp_exit<|cy<|cy<|fk<|bj<|wp_seq ?_;have hy:=(hp.stop om).symm;subst hy;refine aF λI a w U=>?_;refine U.ret rfl (.cons (.sx 1) aW.nil) ?_;rfl
def aj0 (x:aj) (hg:bR x) (ht:x.time<=80000):
 Fn prog 70 [x.av] ((fN x).av):=by
 refine Fn.go 46 func70 ntmps70 (λW I a U=>?_);refine sr<|U.box rfl .tt λb1 I a w U=>U.alloc rfl dM ei λb2 I a w U=>?_;refine aB λI a w U=>?_;refine St.lo (σ:=Nat×aj) (3::(run 11 6 [])) ⟨λ⟨k,y⟩=>[(6,AV.int k)],λ⟨k,y⟩=>[Own.box b1 28 y.cells,Own.box b2 28 [AV.val (.int .i64 0),AV.rows 7 [],AV.rows 15 [],AV.rows 13 [],AV.rows 1 []]],λ⟨k,y⟩=>k<=4/\wh (λ(w:aj) (i:Nat)=>ct w (ev 7 i 0)) 1 x y k⟩ (λ⟨k,y⟩=>4-k) (0,x) U ?aJ ?bF;case aJ=>exact⟨by omega,.zero (by assumption)⟩
 rintro⟨k,y⟩ I a w an U;obtain⟨hk,hp⟩:=an;have Mg:=hp.time;have CS:=hp.aK;dsimp only at U;refine aB λI a w U=>?_;refine cz (λae=>?_) λae=>?_
 .refine bB λI a w U=>?_;refine U.o (.bd jo (.k (.k bc.nil))) λU=>?_;refine U.o (bT (z9 y (ev 7 k 0) hp.aK om) (az (.t rfl) (az (.t rfl) aI))) λU=>?_;refine aZ λI a w U=>?_;rw[CR om] at U;refine aF λI a w U=>?_;exact U.ag (k+1,ct y (ev 7 k 0)) (⟨by show k+1<=4;omega,hp.next (wk CS om _) (nK y _)⟩)
 refine wp_exit<|cy<|cy<|fk<|bj<|wp_seq ?_;obtain rfl:k=4:=by omega
 have hy:lE x=y:=hp.eq.symm;subst hy;have oj:=hp.aK;have F3:=hp.time;refine bK λI a w U=>?_;refine U.o (bT (Mf (lE x) oj om) (az (.t rfl) aI)) λU=>?_;refine aB λI a w U=>?_;have nI:=Ah oj om;have aqi:=nI.1;have aqj:=nI.2;refine aB λI a w U=>?_;refine St.lo (σ:=Nat×aj) (4::(run 13 19 [])) ⟨λ⟨k,y⟩=>[(19,AV.int k)],λ⟨k,y⟩=>[Own.box b1 28 y.cells,Own.box b2 28 [AV.val (.int .i64 0),AV.rows 7 [],AV.rows 15 [],AV.rows 13 [],AV.rows 1 []]],λ⟨k,y⟩=>k<=4/\wh fM 1001 (db 1000 (lE x)) y k⟩ (λ⟨k,y⟩=>4-k) (0,(db 1000 (lE x))) U ?eF ?jS;case eF=>exact⟨by omega,.zero (by assumption)⟩
 rintro⟨k,y⟩ I a w an U;obtain⟨hk,hp⟩:=an;have Mg:=hp.time;have CS:=hp.aK;dsimp only at U;refine aB λI a w U=>?_;refine cz (λah=>?_) λah=>?_
 .refine bB λI a w U=>?_;refine U.o (.bd jo (.k (.k bc.nil))) λU=>?_;refine U.o (bT (z9 y (ev 8 k 0) hp.aK om) (az (.t rfl) (az (.t rfl) aI))) λU=>?_;refine aZ λI a w U=>?_;rw[CR om] at U;have hl:=wk CS om (ev 8 k 0);have bw:=nK y (ev 8 k 0);have hd:=Ah hl om;refine U.o (.ls 0) λU=>?_;refine U.o (bT (Mf (ct y (ev 8 k 0)) hl om) (az (.t rfl) aI)) λU=>?_;refine aR λI a w U=>?_;rw[UN] at U;exact U.ag (k+1,fM y k) (⟨by show k+1<=4;omega,hp.next hd.1 (by have:=hd.2;rw[UN] at this;omega)⟩)
 refine wp_exit<|cy<|cy<|fk<|bj<|wp_seq<|wp_seq ?_;obtain rfl:k=4:=by omega
 have hy:((List.range 4).foldl fM (db 1000 (lE x)))=y:=hp.eq.symm;subst hy;have hg3:=hp.aK;have ht3:=hp.time;refine aB λI a w U=>?_;refine St.lo (σ:=Nat×aj) (5::(run 13 32 [])) ⟨λ⟨k,y⟩=>[(32,AV.int k)],λ⟨k,y⟩=>[Own.box b1 28 y.cells,Own.box b2 28 [AV.val (.int .i64 0),AV.rows 7 [],AV.rows 15 [],AV.rows 13 [],AV.rows 1 []]],λ⟨k,y⟩=>k<=2/\wh gv 1001 ((List.range 4).foldl fM (db 1000 (lE x))) y k⟩ (λ⟨k,y⟩=>2-k) (0,((List.range 4).foldl fM (db 1000 (lE x)))) U ?jh ?oY;case jh=>exact⟨by omega,.zero (by assumption)⟩
 rintro⟨k,y⟩ I a w an U;obtain⟨hk,hp⟩:=an;have Mg:=hp.time;have CS:=hp.aK;dsimp only at U;refine aB λI a w U=>?_;refine cz (λar=>?_) λar=>?_
 .refine bB λI a w U=>?_;refine U.o (.bd jo (.k (.k bc.nil))) λU=>?_;refine U.o (bT (z9 y (ev 2 0 k) hp.aK om) (az (.t rfl) (az (.t rfl) aI))) λU=>?_;refine aZ λI a w U=>?_;rw[CR om] at U;have hl:=wk CS om (ev 2 0 k);have bw:=nK y (ev 2 0 k);have hd:=Ah hl om;refine U.o (.ls 0) λU=>?_;refine U.o (bT (Mf (ct y (ev 2 0 k)) hl om) (az (.t rfl) aI)) λU=>?_;refine aR λI a w U=>?_;rw[UO] at U;exact U.ag (k+1,gv y k) (⟨by show k+1<=2;omega,hp.next hd.1 (by have:=hd.2;rw[UO] at this;omega)⟩)
 refine wp_exit<|cy<|cy<|fk<|bj<|wp_seq ?_;obtain rfl:k=2:=by omega
 have hy:fN x=y:=hp.eq.symm;subst hy;refine aF λI a w U=>?_;refine U.ret rfl (.cons (.sx 1) aW.nil) ?_;rfl
def aj1 {w:aj} (h:bR w) (ht:w.time<=80000):bR (fN w):=by
 have r:=FQ (f:=λ(w:aj) (i:Nat)=>ct w (ev 7 i 0)) (n:=1) aN (λx i hx UP=>⟨wk hx om _,nK x _⟩) (List.range 4) h (by rw[List.length_range];omega);rw[List.length_range] at r;have b:=Ah r.1 om;have t:=FQ (f:=fM) (n:=1001) aN (λx i hx UP=>⟨by
  have h1:=nK x (ev 8 i 0);exact(Ah (wk hx om (ev 8 i 0)) om).1,UK x i⟩) (List.range 4) b.1 (by rw[List.length_range];omega)
 rw[List.length_range] at t;exact(FQ (f:=gv) (n:=1001) aN (λx i hx UP=>⟨by
  have h1:=nK x (ev 2 0 i);exact(Ah (wk hx om (ev 2 0 i)) om).1,UL x i⟩) (List.range 2) t.1 (by rw[List.length_range];omega)).1
def Ai.next {m:Nat} {x y:aj} {k:Nat} (h:Ai m x y k) (hk:k<m) (ht:y.time<79999):Ai m x (fN y) (k+1):=by
 have h1:=ajZ y;refine⟨aj1 h.aK om,by omega,?_⟩;rw[<-h.rest,show m-k=(m-(k+1))+1 by omega];show _=(if y.time<79999 then bA (m-(k+1)) (fN y) else y);rw[if_pos ht]
def Ai.stop {m:Nat} {x y:aj} {k:Nat} (h:Ai m x y k) (hk:¬k<m\/¬y.time<79999):y=bA m x:=by
 rw[<-h.rest];rcases hk with hk|hk
 .rw[show m-k=0 by omega];rfl
 cases m-k with
 |zero=>rfl
 |succ n=>unfold bA;rw[if_neg hk]
def UQ (x:aj) (r:Int) (an:ez x=true):
 Fn prog 36 [x.av,AV.int r] ((bA (min r 40).toNat x).av):=by
 refine Fn.go 25 func36 ntmps36 (λW I a U=>?_);have yG:=iy.1 an;have hg:=yG.1;have mY:=hg.small.2.2.1.1;refine sr<|U.box rfl .tt λb2 I a w U=>U.alloc rfl dM ei λb4 I a w U=>?_;refine bK λI a w U=>?_;refine U.o (.c1 (F0 x hg.Fit mY)) λU=>?_;refine aB λI a w U=>?_;refine U.cd (λae=>?_) λae=>?_
 .exfalso;rw[an] at ae;cases ae;skip
 refine aB λI a w U=>?_;refine St.lo (σ:=Nat×aj) (5::(run 13 10 [])) ⟨λ⟨k,y⟩=>[(5,AV.int k)],λ⟨k,y⟩=>[Own.box b2 28 y.cells,Own.box b4 28 [AV.val (.int .i64 0),AV.rows 7 [],AV.rows 15 [],AV.rows 13 [],AV.rows 1 []]],λ⟨k,y⟩=>k<=40/\Ai (min r 40).toNat x y k⟩ (λ⟨k,y⟩=>40-k) (0,x) U ?aJ ?bF;case aJ=>exact⟨by omega,hg,yG.2,rfl⟩
 rintro⟨k,y⟩ I a w an U;obtain⟨hk,hp⟩:=an;dsimp only at U;refine aG λI a w U=>?_;refine U.o (agW .tt .c) λU=>?_;refine iP λI a w U=>?_;refine px (λah=>?_) λah=>?_
 .obtain⟨h1,h2⟩:=ah;refine bK λI a w U=>?_;refine U.o (bT (aj0 y hp.aK om) (az (.t rfl) aI)) λU=>?_;refine aZ λI a w U=>?_;exact U.ag (k+1,fN y) (⟨by show k+1<=40;omega,hp.next om om⟩)
 simp only[B,Bool.and_eq_false_iff] at ah;refine wp_exit<|cy<|cy<|fk<|bj<|wp_seq ?_;have hy:=hp.stop om;refine bK λI a w U=>?_;refine U.o (.c1 (K0 y hp.aK.small)) λU=>?_;refine aB λI a w U=>?_;refine U.ret rfl (.cons (.sx 1) aW.nil) ?_;rw[<-hy];rfl
def Aj (x:aj) (an:ez x=true):
 Fn prog 31 [x.av] ((bA 25 x).av):=by
 refine Fn.go 5 func31 ntmps31 (λW I a U=>?_);refine bK λI a w U=>?_;refine U.alloc rfl dM ei λb2 I a w U=>?_;refine bK λI a w U=>?_;refine U.o (.cl (UQ x 25 an)) λU=>?_;refine aB λI a w U=>?_;refine U.ret rfl (.cons (.sx 0) aW.nil) ?_;rfl
def yc {x:aj} (h:Inv x) {m:ax} {r:List ax} (hr:x.al=m::r) {j:Nat} (hj:j<4):sv (dQ x) j=sv x j\/(m.to=(j:Int)/\aH m.to 10 11=false/\sv (dQ x) j=(cK (sv x j) m).1):=by
 have hm:=h.aK.words m (by rw[hr];simp);rw[Af hr];split
 .left;unfold sv;rw[FM]
 rename_i bq;have ey:0<=m.to/\m.to<=3:=by
  have:=(kJ hm).2.2.1;simp only[kb,cr,aH,Bool.or_eq_true,Bool.and_eq_true,decide_eq_true_eq] at this bq;omega
 unfold sv;dsimp only;rw[eO (by rw[h.aK.aA];omega)];split
 .rename_i e;right;refine⟨by omega,by simpa using bq,?_⟩;rw[<-e]
 exact .inl rfl
def yd {x:aj} (h:Inv x) {m:ax} {r:List ax} (hr:x.al=m::r) {j:Nat} (hj:j<4) (ey:m.to=(j:Int)):sv (dQ x) j=(cK (sv x j) m).1/\∃l,(dQ x).al=r++l/\l=(cK (sv x j) m).2:=by
 have hb:aH m.to 10 11=false:=by simp[aH];omega
 have ht:m.to.toNat=j:=by omega
 constructor
 .rw[Af hr,if_neg (by rw[hb];decide)];unfold sv;dsimp only;rw[eO (by rw[h.aK.aA];omega),if_pos ht.symm,ht]
 obtain⟨l,l1,_,l3⟩:=Gv h.aK.al hr;refine⟨l,l1,?_⟩;rw[l3 hb,ht]
def Calm.pop {x:aj} (h:Calm x) {m:ax} {r:List ax} (hr:x.al=m::r):Calm (dQ x):=
 ⟨Me h.inv,h.more.lift h.inv _,λi hi=>by
  rcases yc h.inv hr hi with e|⟨_,_,e⟩
  .rw[e];exact h.up i hi
  rw[e,agX];exact h.up i hi⟩
def Calm.ow {x:aj} (h:Calm x) (n:Nat):Calm (db n x):=pb (λ_ _ _ h hr=>h.pop hr) n h
def Ak {x:aj} (h:Inv x) {m:ax} {r:List ax} (hr:x.al=m::r) {j:Nat} (hj:j<4) (k:Nat):ab (sv (dQ x) j).aw k=ab (sv x j).aw k\/(ab (sv (dQ x) j).aw k).bD≠2:=by
 rcases yc h hr hj with e|⟨_,_,e⟩
 .rw[e];exact .inl rfl
 rw[e];exact agY _ _ k
def uJ {w:aj} (h:Calm w) (hr:w.al=[]) {i:Nat} (hi:i<4):ct w (ev 8 (i:Int) 0)={w with time:=w.time+1,al:=gy (sv w i)}:=by
 have e1:cr (i:Int)=true:=iF.2 om;have e2:(ev 8 (i:Int) 0).at_.toNat=i:=by show((i:Int)).toNat=i;omega
 have hd:bX w (ev 8 (i:Int) 0)=({w with time:=w.time+1,al:=eo w.al (gy (sv w i))},(sv w i).up):=by
  have hk:(ev 8 (i:Int) 0).kind=8:=rfl;unfold bX;dsimp only;rw[if_neg om,if_neg om,if_pos (show(aH (ev 8 (i:Int) 0).kind 6 9&&cr (ev 8 (i:Int) 0).at_)=true by
   show(aH 8 6 9&&cr (i:Int))=true;rw[e1];decide)]
  unfold eN;dsimp only;rw[if_neg om,if_neg om,if_pos hk,e2];rfl
 unfold ct;rw[hd];dsimp only;rw[if_pos (h.up i hi),hr,El (by have:=aiu h.inv hi;simp;omega)];rfl
def Al {w:aj} (h:Calm w) {i:Nat} (hi:i<4) (hr:w.al=[]):Calm (ct w (ev 8 (i:Int) 0)):=h.frame (tp h.inv _) (h.more.lift h.inv _) (by rw[uJ h hr hi])
def Gy {w:aj} (h:Calm w) (hr:w.al=[]) {i:Nat} (hi:i<4) {k:Nat} (hk:k<3):(ab (sv (fM w i) i).aw k).bD≠2:=by
 have hc:=Al h hi hr;have hl:=uJ h hr hi;have fy:∀j,sv (ct w (ev 8 (i:Int) 0)) j=sv w j:=λj=>by rw[hl];rfl
 have Mh:(ct w (ev 8 (i:Int) 0)).al=gy (sv w i):=by rw[hl]
 unfold fM;revert hc fy Mh;generalize ct w (ev 8 (i:Int) 0)=y;intro hc fy Mh;by_cases h2:(ab (sv w i).aw k).bD=2
 .have zV:1<=(ab (sv w i).aw k).ba:=by
   have:=rz.1 ((h.inv.cQ hi).aK _ (bf (l:=(sv w i).aw) (k:=k) (by rw[(h.inv.cQ hi).aw];exact hk)));have h3:=this.2.2.2.2 (by rw[h2];decide);omega
  refine Gx (R:=λx=>Calm x/\((ab (sv x i).aw k).bD=2->ab (sv x i).aw k=ab (sv w i).aw k)) (D:=λx=>(ab (sv x i).aw k).bD≠2)
   (Q:=λm=>(m.kind=9/\m.aO=(i:Int)/\m.to=((bL i:Nat):Int)/\m.slot=(k:Int)/\m.ba=(ab (sv w i).aw k).ba)\/(m.kind=10/\m.aO=((bL i:Nat):Int)/\m.to=(i:Int)/\m.slot=(k:Int)/\m.ba=(ab (sv w i).aw k).ba)) (λx hx=>hx.1.inv) ?_ ?_ ?_ ⟨hc,λ_=>by rw[fy]⟩ ?_
  .intro x m r hx dm;refine⟨hx.1.pop dm,λh3=>?_⟩;rcases Ak hx.1.inv dm hi k with e|e
   .rw[e] at h3⊢;exact hx.2 h3
   exact absurd h3 e
  .intro x m r hx dm hd;rcases Ak hx.1.inv dm hi k with e|e
   .rw[e];exact hd
   exact e
  .intro x m r hx dm hq;have dq:m∈x.al:=by rw[dm];simp
   have hm:=hx.1.inv.aK.words m dq;have g:=hx.1.inv.words m dq;rcases hq with⟨q1,q2,q3,q4,q5⟩|⟨q1,q2,q3,q4,q5⟩
   .right;obtain⟨_,l,l1,l2⟩:=yd hx.1.inv dm (gX hi) q3;rw[aiv hx.1 (gX hi) hm g q1 q3 (by rw[iv];exact q2) (by rw[q5];exact zV)] at l2;refine⟨mV (sv x (bL i)) m,by rw[l1,l2];simp,.inr ⟨rfl,?_,q2,q4,q5⟩⟩;exact hx.1.inv.site (gX hi)
   left;by_cases h3:(ab (sv x i).aw k).bD=2
   .have he:=hx.2 h3;rw[(yd hx.1.inv dm hi q3).1,o8 hx.1 hi hm q3];unfold cJ;rw[if_neg om,if_neg om,if_neg om,if_neg om,if_neg om,if_neg om,if_neg om,if_pos q1];have jK:m.slot.toNat=k:=by omega
    have hg:g8 (sv x i) m=dB (kg (sv x i) m):=by
     unfold g8;rw[if_pos];rw[jK,q2,hx.1.inv.site hi,x3,he,h2,q5];simp
    show(ab (g8 (sv x i) m).aw k).bD≠2;rw[hg,lz];show(ab ((sv x i).aw.set m.slot.toNat ⟨m.ba,0⟩) k).bD≠2;rw[jK,eO (by rw[(hx.1.inv.cQ hi).aw];exact hk),if_pos rfl];show(0:Int)≠2;decide
   rcases Ak hx.1.inv dm hi k with e|e
   .rw[e];exact h3
   exact e
  right;refine⟨fS (sv w i) (k:Int),?_,.inl ⟨rfl,h.inv.site hi,?_,rfl,?_⟩⟩
  .rw[Mh];unfold gy;rw[if_pos (h.up i hi)];refine List.mem_append_left _ (List.mem_append_left _ (List.mem_map.2 ⟨k,ZC (by rw[(h.inv.cQ hi).aw];exact hk) h2,rfl⟩))
  .show eX (sv w i).site=_;rw[h.inv.site hi,x3]
  show(ab (sv w i).aw (k:Int).toNat).ba=_;rw[Int.toNat_natCast]
 refine(pb (R:=λx=>Calm x/\(ab (sv x i).aw k).bD≠2) (λx m r hx dm=>⟨hx.1.pop dm,?_⟩) 1000 ⟨hc,by rw[fy];exact h2⟩).2;rcases Ak hx.1.inv dm hi k with e|e
 .rw[e];exact hx.2
 exact e
structure gB (w:aj):Prop where
 calm:Calm w
 al:w.al=[]
def CT {w:aj} (h:Calm w):gB (db 1000 w):=⟨h.ow 1000,(Gw 1000 h.inv (by have:=I8 w.al;have:=h.inv.aK.al;omega)).1⟩
def mF {w:aj} (h:gB w) {i:Nat} (hi:i<4):gB (fM w i):=CT (Al h.calm hi h.al)
def UR {w:aj} (h:Calm w) {j:Nat} (hj:j<4) {k:Nat} (U:(ab (sv w j).aw k).bD≠2) (n:Nat):(ab (sv (db n w) j).aw k).bD≠2:=
 (pb (R:=λx=>Calm x/\(ab (sv x j).aw k).bD≠2) (λx m r hx dm=>⟨hx.1.pop dm,by
   rcases Ak hx.1.inv dm hj k with e|e
   .rw[e];exact hx.2
   exact e⟩) n ⟨h,U⟩).2
def Rest.ow {w:aj} (h:Calm w) (hr:Rest w) (n:Nat):Rest (db n w):=λi hi k hk=>UR h hi (hr i hi k hk) n
def wm {w:aj} (h:Calm w) (hr:w.al=[]) {i:Nat} (hi:i<4) (j:Nat):sv (ct w (ev 8 (i:Int) 0)) j=sv w j:=by rw[uJ h hr hi];rfl
def Rest.jL {w:aj} (h:gB w) (hr:Rest w) {i:Nat} (hi:i<4):Rest (fM w i):=Rest.ow (Al h.calm hi h.al) (λj hj k hk=>by rw[wm h.calm h.al hi];exact hr j hj k hk) 1000
def il (w:aj):aj:=fM (fM (fM (fM w 0) 1) 2) 3
def aj2 (w:aj):(List.range 4).foldl fM w=il w:=by
 rw[show List.range 4=[0,1,2,3] from rfl];simp only[List.foldl_cons,List.foldl_nil,il]
def Mi {w:aj} (h:gB w):gB (il w):=mF (mF (mF (mF h aN) aN) aN) aN
def US {w:aj} (h:gB w):Rest (il w):=by
 have fe:∀{w:aj},gB w->∀{i j k:Nat},i<4->j<4->(ab (sv w j).aw k).bD≠2->(ab (sv (fM w i) j).aw k).bD≠2:=λh i j k hi hj U=>
  UR (Al h.calm hi h.al) hj (by rw[wm h.calm h.al hi];exact U) 1000
 have h1:=mF h (i:=0) aN;have h2:=mF h1 (i:=1) aN;have h3:=mF h2 (i:=2) aN;intro i hi k hk;unfold il;rcases(by omega:i=0\/i=1\/i=2\/i=3) with rfl|rfl|rfl|rfl
 .exact fe h3 aN hi (fe h2 aN hi (fe h1 aN hi (Gy h.calm h.al hi hk)))
 .exact fe h3 aN hi (fe h2 aN hi (Gy h1.calm h1.al hi hk))
 .exact fe h3 aN hi (Gy h2.calm h2.al hi hk)
 exact Gy h3.calm h3.al hi hk
def UT {x:aj} (h:Inv x) {m:ax} {r:List ax} (hr:x.al=m::r) {K:Int->Prop} (hK:∀k,K k->K (k+1)) (hk:∀y∈x.al,K y.kind):∀y∈(dQ x).al,K y.kind:=by
 obtain⟨l,l1,l2,l3⟩:=Gv h.aK.al hr;have hm:K m.kind:=hk m (by rw[hr];simp);intro y hy;rw[l1] at hy;rcases List.mem_append.1 hy with hy|hy
 .exact hk y (by rw[hr];simp[hy])
 cases hc:aH m.to 10 11 with
 |false=>
  rw[l3 hc] at hy
  rw[af3 _ _ y hy]
  exact hK _ hm
 |true=>
  exfalso
  have e:(dQ x).al=r:=by rw[Af hr,if_pos hc,UI]
  rw[e] at l1
  have:=congrArg List.length l1
  rw[List.length_append] at this
  have:l=[]:=List.length_eq_zero_iff.1 om
  rw[this] at hy;simp at hy
def Gz {x:aj} (h:Calm x) (hr:Rest x) {m:ax} {r:List ax} (hx:x.al=m::r) {j:Nat} (hj:j<4):(sv (dQ x) j).aw=(sv x j).aw:=by
 have dq:m∈x.al:=by rw[hx];simp
 have hm:=h.inv.aK.words m dq;rcases yc h.inv hx hj with e|⟨h1,_,e⟩
 .rw[e]
 rw[e,o8 h hj hm h1];exact(LL h hr hj hm (h.inv.words m dq)).1
def UU {x:aj} (h:Calm x) (hr:Rest x) {m:ax} {r:List ax} (hx:x.al=m::r) (hk:m.kind≠1) {j:Nat} (hj:j<4):∀d∈(sv (dQ x) j).aD,d∈(sv x j).aD:=by
 have dq:m∈x.al:=by rw[hx];simp
 have hm:=h.inv.aK.words m dq;rcases yc h.inv hx hj with e|⟨h1,_,e⟩
 .rw[e];exactλd hd=>hd
 rw[e,o8 h hj hm h1];exact aio h hr hj hm (h.inv.words m dq) hk
structure Phase (w:aj) (n:Int) (x:aj):Prop where
 calm:Calm x
 rest:Rest x
 kinds:∀m∈x.al,n<=m.kind
 aw:∀j,j<4->(sv x j).aw=(sv w j).aw
 aD:∀j,j<4->∀d∈(sv x j).aD,d∈(sv w j).aD
def Phase.pop {w:aj} {n:Int} (hn:2<=n) {x:aj} (h:Phase w n x) {m:ax} {r:List ax} (hx:x.al=m::r):Phase w n (dQ x) where
 calm:=h.calm.pop hx
 rest:=λi hi k hk=>by rw[Gz h.calm h.rest hx hi];exact h.rest i hi k hk
 kinds:=UT h.calm.inv hx (K:=λk=>n<=k) (λk hk=>by omega) h.kinds
 aw:=λj hj=>by rw[Gz h.calm h.rest hx hj];exact h.aw j hj
 aD:=λj hj d hd=>h.aD j hj d (UU h.calm h.rest hx (by have:=h.kinds m (by rw[hx];simp);omega) hj d hd)
def Phase.ow {w:aj} {n:Int} (hn:2<=n) {x:aj} (h:Phase w n x) (k:Nat):Phase w n (db k x):=pb (λ_ _ _ h hx=>h.pop hn hx) k h
def Mj {w:aj} (h:gB w) (hr:Rest w) {i:Nat} (hi:i<4):Phase w 5 (ct w (ev 8 (i:Int) 0)) where
 calm:=Al h.calm hi h.al
 rest:=λj hj k hk=>by rw[wm h.calm h.al hi];exact hr j hj k hk
 kinds:=by rw[uJ h.calm h.al hi];exact ahg
 aw:=λj _=>by rw[wm h.calm h.al hi]
 aD:=λj _ d hd=>by rw[wm h.calm h.al hi] at hd;exact hd
def aj3 {w x:aj} {n:Int} (h:Phase w n x) {j:Nat} (hj:j<4) {m:ax} {v:aE} (hm:bI m=true) (g:dX x m) (hk:m.kind=5) (ey:m.to=(j:Int)) (hv:m.ai=[v]) (hf:0<=m.aO/\m.aO<=3) (CG:m.aO/2≠((j/2:Nat):Int)) (U:(ab (sv w j).aw (vk v)).bD=1):
 (cK (sv x j) m).2=[l8 (sv x j) m v]/\(v∈(cK (sv x j) m).1.ai\/v∈(cK (sv x j) m).1.waits->True):=by
 refine⟨?_,λ_=>trivial⟩;rw[o8 h.calm hj hm ey];have jx:=h.calm.inv.site hj;have zQ:=h.calm.inv.cQ hj;obtain⟨u,u1,u2,u3⟩:=g.k5 hk;rw[hv] at u1;obtain rfl:v=u:=by simpa using u1
 have zA:=h.calm.inv.FZ u2;have e0:ab m.ai 0=v:=by rw[hv];rfl
 have hsj:=(sU (n:=(j:Int)) (iF.2 ⟨by omega,by omega⟩)).1;have hsf:=(sU (n:=m.aO) (iF.2 hf)).1;unfold cJ;rw[if_neg om,if_neg om,if_pos hk];unfold fL;have an:sT (sv x j) m=true:=by
  unfold sT;rw[e0,jx];simp only[Bool.and_eq_true,bne_iff_ne,decide_eq_true_eq];refine⟨⟨⟨⟨iF.2 hf,by omega⟩,by rw[hv];rfl⟩,?_⟩,by rw[u3];omega⟩;unfold fq;rw[(iW zA).1];have:cM (sv x j) v.key=1:=by
   unfold cM;rw[h.aw j hj];exact U
  rw[this];rfl
 rw[if_pos an];dsimp only;rw[e0];split
 .rename_i hp;have hw:=Uo h.calm.inv hj;have hc:ix (sv x j).waits v=true:=by
   unfold ix;rw[zA];simp only[Bool.and_eq_true,decide_eq_true_eq];exact⟨⟨trivial,hp.2⟩,by omega⟩
  rw[if_pos hc]
 rfl
def CU {w:aj} (h:gB w) (hr:Rest w) {i:Nat} (hi:i<4):Phase w 5 (fM w i)/\(sv (fM w i) i).aD=[]:=by
 have hp:=Mj h hr hi;have hb:Phase w 5 (fM w i):=hp.ow aN 1000;refine⟨hb,List.eq_nil_iff_forall_not_mem.2 λd hd=>?_⟩;have vQ:=hb.aD i hi d hd;revert hd;have U:=h.calm.inv.cQ hi;obtain⟨v,a1,a2,a3⟩:=Lg (U.ly d vQ);have xL:=rV (iZ U (.inl a2));have gj:v.key=d.key:=congrArg au.key a3;have eG:cM (sv w i) d.key=1:=by rw[<-gj];exact Uf h.calm.inv hr hi (.inl a2)
 obtain⟨j,hj,nL,CV⟩:=Lf h.calm.inv hr (ZA hi) xL;have JL:=(sU (n:=(i:Int)) (iF.2 ⟨by omega,by omega⟩)).1;show¬d∈(sv (db 1000 (ct w (ev 8 (i:Int) 0))) i).aD;refine Gx (R:=Phase w 5) (D:=λx=>¬d∈(sv x i).aD) (Q:=λm=>(m.kind=5/\m.aO=(i:Int)/\m.to=(j:Int)/\m.ai=[v])\/(m.kind=6/\m.aO=(j:Int)/\m.to=(i:Int)/\(⟨m.key,m.aq⟩:au)=d))
  (λx hx=>hx.calm.inv) (λx m r hx dm=>hx.pop aN dm) ?_ ?_ hp ?_
 .intro x m r hx dm hd dq;exact hd (UU hx.calm hx.rest dm (by have:=hx.kinds m (by rw[dm];simp);omega) hi d dq)
 .intro x m r hx dm hq;have dq:m∈x.al:=by rw[dm];simp
  have hm:=hx.calm.inv.aK.words m dq;have g:=hx.calm.inv.words m dq;rcases hq with⟨q1,q2,q3,q4⟩|⟨q1,q2,q3,q4⟩
  .right;obtain⟨_,l,l1,l2⟩:=yd hx.calm.inv dm hj q3;rw[(aj3 hx hj hm g q1 q3 q4 om om CV).1] at l2;refine⟨l8 (sv x j) m v,by rw[l1,l2];simp,.inr ⟨rfl,hx.calm.inv.site hj,q2,?_⟩⟩;exact a3
  left;rw[(yd hx.calm.inv dm hi q3).1,<-q4];refine agZ hx.calm hi hm q1 q3 om om ?_;have:m.key=d.key:=congrArg au.key q4;unfold cM at*;rw[hx.aw i hi,this];exact eG
 right;rw[uJ h.calm h.al hi];refine⟨{bW with kind:=5,aO:=(sv w i).site,to:=(j:Int),ai:=(eE (sv w i).ai d).toList},?_,.inl ⟨rfl,h.calm.inv.site hi,rfl,?_⟩⟩
 .show _∈gy (sv w i);unfold gy;rw[if_pos (h.calm.up i hi)];refine List.mem_append_left _ (List.mem_append_right _ (List.mem_flatten.2 ⟨jt (sv w i) d,List.mem_map.2 ⟨d,vQ,rfl⟩,?_⟩));unfold jt;rw[if_pos (show(cM (sv w i) d.key==1)=true by rw[eG];rfl)];have et:bM (sv w i).site=(i:Int)/2:=by rw[h.calm.inv.site hi,JL]
  rcases(by omega:(j:Int)=2-2*bM (sv w i).site\/(j:Int)=2-2*bM (sv w i).site+1) with e|e
  .rw[e];exact List.mem_cons_self
  rw[e];exact List.mem_cons_of_mem _ List.mem_cons_self
 show(eE (sv w i).ai d).toList=[v];rw[a1];rfl
def Am {w:aj} (h:gB w) (hr:Rest w) {i j:Nat} (hi:i<4) (hj:j<4) (ho:(sv w j).aD=[]):(sv (fM w i) j).aD=[]:=
 List.eq_nil_iff_forall_not_mem.2 λd hd=>by
  have:=(CU h hr hi).1.aD j hj d hd;rw[ho] at this;simp at this
def aj4 {w:aj} (h:gB w) (hr:Rest w):xl (il w):=by
 have h1:=mF h (i:=0) aN;have h2:=mF h1 (i:=1) aN;have h3:=mF h2 (i:=2) aN;have r1:=hr.jL h (i:=0) aN;have r2:=r1.jL h1 (i:=1) aN;have r3:=r2.jL h2 (i:=2) aN;intro i hi;unfold il;rcases(by omega:i=0\/i=1\/i=2\/i=3) with rfl|rfl|rfl|rfl
 .exact Am h3 r3 aN hi (Am h2 r2 aN hi (Am h1 r1 aN hi (CU h hr hi).2))
 .exact Am h3 r3 aN hi (Am h2 r2 aN hi (CU h1 r1 hi).2)
 .exact Am h3 r3 aN hi (CU h2 r2 hi).2
 exact(CU h3 r3 hi).2
def aj5 {w:aj} (h:gB w) (hr:Rest w):Rest (il w):=by
 have h1:=mF h (i:=0) aN;have h2:=mF h1 (i:=1) aN;have h3:=mF h2 (i:=2) aN;exact(((hr.jL h (i:=0) aN).jL h1 (i:=1) aN).jL h2 (i:=2) aN).jL h3 (i:=3) aN
structure r7 (w x:aj):Prop where
 ph:Phase w 7 x
 ai:∀j,j<4->∀v∈(sv w j).ai,v∈(sv x j).ai
 waits:∀j,j<4->∀v∈(sv x j).waits,v∈(sv w j).waits
def r7.at {w x:aj} (h:r7 w x) {m:ax} {r:List ax} (hx:x.al=m::r) {j:Nat} (hj:j<4):(∀v∈(sv x j).ai,v∈(sv (dQ x) j).ai)/\(∀v∈(sv (dQ x) j).waits,v∈(sv x j).waits)/\
 ∀v d,v∈(sv (dQ x) j).waits->d∈v.aQ->ew (sv x j) d=true->ew (sv (dQ x) j) d=true:=by
 have dq:m∈x.al:=by rw[hx];simp
 have hm:=h.ph.calm.inv.aK.words m dq;rcases yc h.ph.calm.inv hx hj with e|⟨h1,_,e⟩
 .rw[e];exact⟨λv hv=>hv,λv hv=>hv,λ_ _ _ _ U=>U⟩
 rw[e,o8 h.ph.calm hj hm h1];exact aip h.ph.calm h.ph.rest hj hm (h.ph.calm.inv.words m dq) (h.ph.kinds m dq)
def r7.pop {w x:aj} (h:r7 w x) {m:ax} {r:List ax} (hx:x.al=m::r):r7 w (dQ x):=
 ⟨h.ph.pop aN hx,λj hj v hv=>(h.at hx hj).1 v (h.ai j hj v hv),λj hj v hv=>h.waits j hj v ((h.at hx hj).2.1 v hv)⟩
def aj6 {w:aj} (h:gB w) (hr:Rest w) (hp:xl w) {i:Nat} (hi:i<4):r7 w (ct w (ev 8 (i:Int) 0)):=by
 have ph:=Mj h hr hi;have U:=wm h.calm h.al hi;refine⟨⟨ph.calm,ph.rest,?_,ph.aw,ph.aD⟩,λj _ v hv=>by rw[U];exact hv,λj _ v hv=>by rw[U] at hv;exact hv⟩;rw[uJ h.calm h.al hi];show∀m∈gy (sv w i),7<=m.kind;intro m hm;unfold gy at hm;split at hm
 .rw[hp i hi] at hm;rcases List.mem_append.1 hm with hm|hm
  .rcases List.mem_append.1 hm with hm|hm
   .exfalso;obtain⟨k,hk,_⟩:=List.mem_map.1 hm;have h3:=QQ (h.calm.inv.cQ hi) hk;unfold leaving at hk;have:=(List.mem_filter.1 hk).2;rw[beq_iff_eq] at this;exact hr i hi k h3 this
   simp at hm
  obtain⟨d,_,rfl⟩:=List.mem_map.1 hm;exact Int.le_refl _
 simp at hm
def aj7 {w:aj} (h:gB w) (hr:Rest w) (hp:xl w) {i:Nat} (hi:i<4):r7 w (fM w i)/\∀v∈(sv (fM w i) i).waits,∃d∈v.aQ,¬∃u,bn w (i/2) u/\u.aU=d:=by
 have h0:=aj6 h hr hp hi;have hb:r7 w (fM w i):=pb (R:=r7 w) (λ_ _ _ h hx=>h.pop hx) 1000 h0;refine⟨hb,λv hv=>Classical.byContradiction λhn=>?_⟩;have aT:∀d∈v.aQ,∃u,bn w (i/2) u/\u.aU=d:=λd hd=>Classical.byContradiction λhc=>hn ⟨d,hd,hc⟩;have hvw:=hb.waits i hi v hv;have we:=gX hi;have seen:∀d∈v.aQ,ew (sv (fM w i) i) d=true:=λd hd=>by
  have key:v∈(sv (db 1000 (ct w (ev 8 (i:Int) 0))) i).waits->ew (sv (db 1000 (ct w (ev 8 (i:Int) 0))) i) d=true:=by
   refine Gx (R:=r7 w) (D:=λx=>v∈(sv x i).waits->ew (sv x i) d=true) (Q:=λm=>(m.kind=7/\m.aO=(i:Int)/\m.to=((bL i:Nat):Int)/\(⟨m.key,m.aq⟩:au)=d)\/(m.kind=8/\m.aO=((bL i:Nat):Int)/\m.to=(i:Int)/\(⟨m.key,m.aq⟩:au)=d))
    (λx hx=>hx.ph.calm.inv) (λx m r hx dm=>hx.pop dm) ?_ ?_ h0 ?_
   .intro x m r hx dm hD kR;have ha:=hx.at dm hi;exact ha.2.2 v d kR hd (hD (ha.2.1 v kR))
   .intro x m r hx dm hq;have dq:m∈x.al:=by rw[dm];simp
    have hm:=hx.ph.calm.inv.aK.words m dq;rcases hq with⟨q1,q2,q3,q4⟩|⟨q1,q2,q3,q4⟩
    .obtain⟨u,hu,e⟩:=aT d hd;by_cases UW:u∈(sv w i).ai
     .left;intro _;exact KR ⟨u,(hx.at dm hi).1 u (hx.ai i hi u UW),e⟩
     right;have UX:=hx.ai _ we u (hu.cases.resolve_left UW);obtain⟨_,l,l1,l2⟩:=yd hx.ph.calm.inv dm we q3;have CW:(cK (sv x (bL i)) m).2=[mA (sv x (bL i)) m]:=by
      rw[o8 hx.ph.calm we hm q3];unfold cJ;rw[if_neg om,if_neg om,if_neg om,if_neg om,if_pos q1];show kK _ m=_;unfold kK;obtain⟨y,y1,_⟩:=Lg (l:=(sv x (bL i)).ai) (d:=⟨m.key,m.aq⟩) ⟨u,UX,by rw[q4];exact e⟩;rw[if_pos (by rw[y1,hx.ph.calm.inv.site we,x3,iv,q2];simp)]
     rw[CW] at l2;exact⟨mA (sv x (bL i)) m,by rw[l1,l2];simp,.inr ⟨rfl,hx.ph.calm.inv.site we,q2,q4⟩⟩
    left;intro kR;have uB:=(hx.at dm hi).2.1 v kR;rw[(yd hx.ph.calm.inv dm hi q3).1,o8 hx.ph.calm hi hm q3] at kR⊢;unfold cJ at*;rw[if_neg om,if_neg om,if_neg om,if_neg om,if_neg om,if_pos q1] at*;have aj9:((m.aO==eX (sv x i).site)&&gY (sv x i) ⟨m.key,m.aq⟩&&decide ((sv x i).aV.length<80))=true:=by
     have:=ais hx.ph.calm.inv hi;rw[q2,hx.ph.calm.inv.site hi,x3,q4,Cc.2 ⟨v,uB,hd⟩];simp;omega
    have hH:fK (sv x i) m=dB {sv x i with aV:=dP (sv x i).aV ⟨m.key,m.aq⟩}:=by
     unfold fK;rw[if_pos aj9]
    show ew (fK (sv x i) m) d=true;have GA:v∈(fK (sv x i) m).waits:=kR;rw[hH] at GA⊢;exact T5 (KS (s:={sv x i with aV:=dP (sv x i).aV ⟨m.key,m.aq⟩}) (vL.2 (.inl q4.symm))) GA hd
   by_cases U:ew (sv w i) d=true
   .left;intro _;rw[wm h.calm h.al hi];exact U
   right;rw[uJ h.calm h.al hi];refine⟨mB (sv w i) d,?_,.inl ⟨rfl,h.calm.inv.site hi,?_,rfl⟩⟩
   .show _∈gy (sv w i);unfold gy;rw[if_pos (h.calm.up i hi)];exact List.mem_append_right _ (List.mem_map.2 ⟨d,(TE (sv w i)).2.2 v hvw d hd (by simpa using U),rfl⟩)
   show eX (sv w i).site=_;rw[h.calm.inv.site hi,x3]
  exact key hv
 have hc:=hb.ph.calm;have UY:=TB (hc.more.done i hi) (by have:=LM hc.inv hi;omega) hv;have:ic (sv (fM w i) i) v=true:=by
  unfold ic;rw[Uf hc.inv hb.ph.rest hi (.inr hv),KP.2 seen];rfl
 rw[this] at UY;cases UY
def UZ {w:aj} (h:Inv w) (hp:xl w) {σ:Nat} {v:aE} (hv:bn w σ v) (U:bM v.aq.site=(σ:Int)):mu w (1-σ) v:=by
 have key:∀i,i<4->i/2=σ->v∈(sv w i).ai->¬behind (sv w i) (sv w (bL i)) (vk v)->mu w (1-σ) v:=λi hi e CX hb=>by
  rcases h.p8 i hi v CX (by rw[e];exact U) hb with h1|h1
  .rw[hp i hi] at h1;simp at h1
  rw[e] at h1;exact h1
 obtain⟨i,hi,e,CX⟩:=hv;by_cases hb:behind (sv w i) (sv w (bL i)) (vk v)
 .have h2:=h.o6 i hi v CX hb;exact key (bL i) (gX hi) (by rw[nv];exact e) h2 (by rw[iv];exact IE (h.fits i hi _ (rV (iZ (h.cQ hi) (.inl CX)))) hb)
 exact key i hi e CX hb
def U0 {w:aj} (h:Inv w) {σ:Nat} {v:aE} (hv:bn w σ v):v.ao.toNat<2/\((v.ao.toNat:Nat):Int)=v.ao:=by
 obtain⟨q,hq,e,_⟩:=h.made σ v hv;have:=ou h.aK hq;rwa[e] at this
structure hO (w:aj) (r:Int):Prop where
 still:gB w
 rest:Rest w
 p9:xl w
 cU:∀i,i<4->∀v∈(sv w i).waits,r<v.aq.time
def aka {w:aj} {r:Int} (h:hO w r) {i:Nat} (hi:i<4) {v:aE} (hv:v∈(sv w i).waits) (ht:v.aq.time<=r+1) {d:au} (hd:d∈v.aQ):∃u,bn w (i/2) u/\u.aU=d:=by
 have hI:=h.still.calm.inv;have pE:=hI.mb i hi v hv;obtain⟨u,e,hu⟩:=FT hI pE hd;have htm:=agP (hI.FZ pE) hd;have UX:u.aq.time=d.aq.time:=by rw[<-e];rfl
 obtain⟨h1,h2⟩:=hI.home _ u hu;have hc:=U0 hI hu;refine⟨u,?_,e⟩;by_cases U:u.ao.toNat=i/2
 .rw[<-U];exact h2
 have hx:=UZ hI h.p9 h2 (by rw[h1,hc.2]);rw[show 1-u.ao.toNat=i/2 by omega] at hx;obtain⟨j,hj,ej,nL|nL⟩:=hx
 .exact⟨j,hj,ej,nL⟩
 have:=h.cU j hj u nL;omega
def hO.jL {w:aj} {r:Int} (h:hO w r) {i:Nat} (hi:i<4):hO (fM w i) r/\(∀v∈(sv (fM w i) i).waits,r+1<v.aq.time)/\r7 w (fM w i):=by
 obtain⟨ht,hw⟩:=aj7 h.still h.rest h.p9 hi;refine⟨⟨mF h.still hi,ht.ph.rest,λj hj=>List.eq_nil_iff_forall_not_mem.2 λd hd=>?_,λj hj v hv=>h.cU j hj v (ht.waits j hj v hv)⟩,λv hv=>?_,ht⟩
 .have:=ht.ph.aD j hj d hd;rw[h.p9 j hj] at this;simp at this
 rcases Int.lt_or_le (r+1) v.aq.time with bw|hle
 .exact bw
 obtain⟨d,hd,hn⟩:=hw v hv;exact absurd (aka h hi (ht.waits i hi v hv) hle hd) hn
def hO.U1 {w:aj} {r:Int} (h:hO w r):hO (il w) (r+1)/\(∀j,j<4->∀v∈(sv w j).ai,v∈(sv (il w) j).ai)/\(∀j,j<4->(sv (il w) j).aw=(sv w j).aw)/\∀j,j<4->∀v∈(sv (il w) j).waits,v∈(sv w j).waits:=by
 obtain⟨q1,o1,t1⟩:=h.jL (i:=0) aN;obtain⟨q2,o2,t2⟩:=q1.jL (i:=1) aN;obtain⟨q3,o3,t3⟩:=q2.jL (i:=2) aN;obtain⟨q4,o4,t4⟩:=q3.jL (i:=3) aN;unfold il;refine⟨⟨q4.still,q4.rest,q4.p9,λi hi v hv=>?_⟩,λj hj v hv=>t4.ai j hj v (t3.ai j hj v (t2.ai j hj v (t1.ai j hj v hv))),λj hj=>(t4.ph.aw j hj).trans ((t3.ph.aw j hj).trans ((t2.ph.aw j hj).trans (t1.ph.aw j hj))),λj hj v hv=>t1.waits j hj v (t2.waits j hj v (t3.waits j hj v (t4.waits j hj v hv)))⟩;rcases(by omega:i=0\/i=1\/i=2\/i=3) with rfl|rfl|rfl|rfl
 .exact o1 v (t2.waits _ hi v (t3.waits _ hi v (t4.waits _ hi v hv)))
 .exact o2 v (t3.waits _ hi v (t4.waits _ hi v hv))
 .exact o3 v (t4.waits _ hi v hv)
 exact o4 v hv
def Ml {w:aj} (h:hO w 20) {i:Nat} (hi:i<4):(sv w i).waits=[]/\(sv w i).aV=[]:=by
 have hc:=h.still.calm;have hw:(sv w i).waits=[]:=List.eq_nil_iff_forall_not_mem.2 λv hv=>by
  have h1:=h.cU i hi v hv;have h2:=Uq hc.inv hc.more.KO (hc.inv.mb i hi v hv);omega
 refine⟨hw,List.eq_nil_iff_forall_not_mem.2 λd hd=>?_⟩;obtain⟨v,hv,_⟩:=Cc.1 (hc.more.Tx i hi d hd);rw[hw] at hv;simp at hv
def GB:∀{l m:List aE},VS l->VS m->(∀v,v∈l↔v∈m)->l=m
 |[],[],_,_,_=>rfl
 |[],x::m,_,_,h=>by have:=(h x).2 bk;simp at this
 |x::l,[],_,_,h=>by have:=(h x).1 bk;simp at this
 |x::l,y::m,h1,h2,h=>by
  unfold VS at h1 h2;rw[List.pairwise_cons] at h1 h2;have Mm:∀v:aE,fG v v=true->False:=λv hv=>by unfold fG at hv;rw[xB] at hv;cases hv
  have e:x=y:=by
   rcases List.mem_cons.1 ((h x).1 bk) with e|hx
   .exact e
   rcases List.mem_cons.1 ((h y).2 bk) with e|hy
   .exact e.symm
   exact(Mm x (P7 (h1.1 y hy) (h2.1 x hx))).elim
  subst e;rw[GB (l:=l) (m:=m) h1.2 h2.2 λv=>⟨λhv=>?_,λhv=>?_⟩]
  .rcases List.mem_cons.1 ((h v).1 (by simp[hv])) with rfl|h3
   .exact(Mm _ (h1.1 _ hv)).elim
   exact h3
  rcases List.mem_cons.1 ((h v).2 (by simp[hv])) with rfl|h3
  .exact(Mm _ (h2.1 _ hv)).elim
  exact h3
def ye {w:aj} (h:hO w 20) {σ τ:Nat} (hτ:τ<2) {v:aE} (hv:bn w σ v):bn w τ v:=by
 have hI:=h.still.calm.inv;obtain⟨h1,h2⟩:=hI.home _ v hv;have hc:=U0 hI hv;by_cases U:v.ao.toNat=τ
 .rw[<-U];exact h2
 have hx:=UZ hI h.p9 h2 (by rw[h1,hc.2]);rw[show 1-v.ao.toNat=τ by omega] at hx;obtain⟨j,hj,ej,nL|nL⟩:=hx
 .exact⟨j,hj,ej,nL⟩
 rw[(Ml h hj).1] at nL;simp at nL
def Mn {w:aj} (h:hO w 20):cN w 0=cN w 1:=
 GB (tj (σ:=0) h.still.calm.inv aN) (tj (σ:=1) h.still.calm.inv aN) λv=>by
  rw[show(0:Int)=((0:Nat):Int) from rfl,show(1:Int)=((1:Nat):Int) from rfl,nb h.still.calm.inv aN,nb h.still.calm.inv aN];exact⟨ye h aN,ye h aN⟩
def U2 (w:aj) (e:Ev):sL w.calls (ct w e).calls:=by
 unfold ct;split
 .exact ajS w e
 exact .inl rfl
def sL.U3 {x:aj} {e:Ev} {n:Nat} (hn:n<x.calls.length) (h:cD (ab x.calls n)=false):ab (ct x e).calls n=ab x.calls n:=(U2 x e).ended hn h
def yf {x:aj} {m:ax} {r:List ax} (hr:x.al=m::r):(dQ x).calls=x.calls\/∃n,n<x.calls.length/\cD (ab x.calls n)=true/\(dQ x).calls=x.calls.set n (cP (ab x.calls n) m (x.time+1)):=by
 rw[Af hr];split
 .by_cases h0:bY x.calls (m.to-10)<0
  .left;unfold iL;dsimp only;rw[if_pos h0]
  right;obtain⟨a1,a2,a3⟩:=l5 (l:=x.calls) (ao:=m.to-10) om;exact⟨_,a1,a3,TL (x:={x with time:=x.time+1,al:=r}) (show bY x.calls (m.to-10)=(((bY x.calls (m.to-10)).toNat:Nat):Int) by omega)⟩
 exact .inl rfl
def akb {x:aj} (h:Inv x) {m:ax} {r:List ax} (hr:x.al=m::r) {n:Nat} (hn:n<x.calls.length) (hw:cD (ab x.calls n)=true) (ey:m.to=10+(ab x.calls n).ao):(dQ x).calls=x.calls.set n (cP (ab x.calls n) m (x.time+1)):=by
 have hc:=ou h.aK (bf hn);rw[Af hr,if_pos (by simp only[aH,Bool.and_eq_true,decide_eq_true_eq];omega)];refine TL (x:={x with time:=x.time+1,al:=r}) ?_;rw[show m.to-10=(ab x.calls n).ao by omega];exact Us h.aK hn hw
def Ask.pop {w x:aj} {n:Nat} (h:Ask w n x) {m:ax} {r:List ax} (hx:x.al=m::r):Ask w n (dQ x) where
 calm:=h.calm.pop hx
 rest:=λi hi k hk=>by rw[Gz h.calm h.rest hx hi];exact h.rest i hi k hk
 aw:=λj hj=>by rw[Gz h.calm h.rest hx hj];exact h.aw j hj
 len:=Nat.lt_of_lt_of_le h.len (U2 x _).len.1
 same:=by
  rcases yf hx with e|⟨k,hk,_,e⟩
  .rw[e];exact h.same
  rw[e,eO hk];split
  .rename_i e2;rw[<-e2];exact h.same.trans (FL _ _ _)
  exact h.same
def U4 {l:List aE} (hl:VS l) {key:Int} {x:aE} (hx:x∈l) (hk:x.key=key):∃t,dV l key=some t/\(x=t\/fG x t=true):=by
 have hp:oR key x=true:=by simpa[oR] using hk
 cases ht:dV l key with
 |none=>
  unfold dV at ht
  rw[List.find?_eq_none] at ht
  exact absurd hp (ht x (List.mem_reverse.2 hx))
 |some t=>
  refine⟨t,rfl,?_⟩
  unfold dV at ht
  obtain⟨_,I6,bs,e,kf⟩:=List.find?_eq_some_iff_append.1 ht
  have e2:l=bs.reverse++t::I6.reverse:=by
   have:=congrArg List.reverse e;simpa using this
  rw[e2] at hx hl
  rcases List.mem_append.1 hx with h1|h1
  .exact .inr ((List.pairwise_append.1 hl).2.2 x h1 t bk)
  rcases List.mem_cons.1 h1 with h1|h1
  .exact .inl h1
  have:=kf x (List.mem_reverse.1 h1)
  rw[hp] at this;cases this
def akc {x:aj} (h:Calm x) {j:Nat} (hj:j<4) {m:ax} (hm:bI m=true) (g:dX x m) (hk:m.kind=1) (ey:m.to=(j:Int)) (hf:10<=m.aO/\m.aO<=11) (hc:1<=m.call) (U:cM (sv x j) m.key=1):∃st,di st=true/\(cK (sv x j) m).2=[mU (sv x j) m st]:=by
 rw[o8 h hj hm ey];have zQ:=h.inv.cQ hj;have Mo:=kJ hm;unfold cJ;rw[if_pos hk];unfold fT;have kT:(aH m.aO 10 11&&decide (1<=m.call)&&fq (sv x j) m.key)=true:=by
  unfold fq;rw[U,BR hm];simp[aH,hf,hc]
 rw[if_pos kT];split
 .rename_i v hv;exact⟨v.aq,(iW (fi zQ.ai v (Jo hv).1)).2.1,rfl⟩
 have akd:∀s∈fh (sv x j) m,s.time<=20:=λs U=>by
  obtain⟨τ,u,hu,e⟩:=T4 h.inv hj g hk U;have:=Uq h.inv h.more.KO hu;rw[e] at this;exact this
 have hM:0<=je (fh (sv x j) m)/\je (fh (sv x j) m)<=20:=by
  refine⟨(Eb _ 0).1,?_⟩;rcases It (fh (sv x j) m) 0 with e|⟨s,U,e⟩
  .unfold je;rw[e];decide
  unfold je;rw[<-e];exact akd s U
 have U5:js (fh (sv x j) m)=true:=by unfold js;rw[decide_eq_true_eq];omega
 have be:(eK (sv x j) m).aq=⟨je (fh (sv x j) m)+1,(sv x j).site⟩:=by
  show nz _ _=_;unfold nz;rw[if_pos U5]
 have cX:di (eK (sv x j) m).aq=true:=by
  rw[be];unfold di;rw[Bool.and_eq_true];exact⟨by simp only[aH,Bool.and_eq_true,decide_eq_true_eq];omega,zQ.site⟩
 have zA:dL (eK (sv x j) m)=true:=by
  unfold dL;simp only[Bool.and_eq_true];refine⟨⟨⟨⟨⟨⟨BR hm,cX⟩,?_⟩,?_⟩,?_⟩,Mo.2.2.2.2.2.2.2.1⟩,?_⟩
  .show aH m.val 0 9999=true;simp only[aH,Bool.and_eq_true,decide_eq_true_eq];exact Mo.2.2.2.2.2.2.1
  .show fF (m.aO-10)=true;exact pJ.2 om
  .show aH m.call 1 99=true;simp only[aH,Bool.and_eq_true,decide_eq_true_eq];exact⟨hc,Mo.2.2.2.1.2⟩
  unfold Dx;rw[uh (p:=λd:au=>decide (d.aq.time<(eK (sv x j) m).aq.time))];intro d hd;rw[decide_eq_true_eq,be];have:d.aq.time<=je (fh (sv x j) m):=(Eb (fh (sv x j) m) 0).2 _ (by unfold fh;exact List.mem_append_left _ (List.mem_map.2 ⟨d,hd,rfl⟩));show d.aq.time<je (fh (sv x j) m)+1;omega
 have hcp:ix (sv x j).ai (eK (sv x j) m)=true:=by
  unfold ix;rw[zA];simp only[Bool.and_eq_true,decide_eq_true_eq];refine⟨⟨trivial,zC λv hv e=>?_⟩,by have:=LM h.inv hj;omega⟩;have ek:v.key=m.key:=congrArg au.key e;have es:v.aq=(eK (sv x j) m).aq:=congrArg au.aq e;obtain⟨t,ht,hle⟩:=U4 (vZ zQ.ai) hv ek;have h1:t.aq.time<=je (fh (sv x j) m):=(Eb (fh (sv x j) m) 0).2 _ (by unfold fh;rw[ht];simp);have h2:v.aq.time=je (fh (sv x j) m)+1:=by rw[es,be]
  rcases hle with rfl|hle
  .omega
  have eH:=(rv ht).2;unfold fG eD at hle;have e3:v.aU.key=t.aU.key:=ek.trans eH.symm;rw[e3] at hle;simp[bV] at hle;have e4:v.aU.aq=v.aq:=rfl;have e5:t.aU.aq=t.aq:=rfl;rw[e4,e5] at hle;omega
 rw[U5,hcp,decide_eq_true (show(sv x j).aD.length<80 by have:=Up h.inv hj;omega)];exact⟨_,cX,rfl⟩
def akf {q:Call} {t:Int} (h:dH q t):(ie q).length<=60:=by
 have hk:q.keys.length<=3:=by
  have:=h.keys;unfold iu at this;simp only[Bool.and_eq_true,Bool.or_eq_true,beq_iff_eq,aH,decide_eq_true_eq] at this;omega
 have hn:=iE h.aL;have ha:(asks q).length<=9:=by
  unfold asks;split
  .simp
  rw[List.length_append,List.length_map,List.length_map];have:=List.length_filter_le (λk=>decide (cm q k<0)) q.keys;omega
 unfold ie;split
 .have:=IG (f:=jr q) (n:=2) (λ_=>by simp[jr]) (asks q);omega
 simp
def CY {w:aj} (h:gB w) {n:Nat} (hn:n<w.calls.length) (hw:cD (ab w.calls n)=true):ct w (ev 2 0 (ab w.calls n).ao)={w with time:=w.time+1,al:=ie (ab w.calls n)}:=by
 have hk:(ev 2 0 (ab w.calls n).ao).kind=2:=rfl;have KU:=Us h.calm.inv.aK hn hw;have hd:bX w (ev 2 0 (ab w.calls n).ao)=({w with time:=w.time+1,al:=eo w.al (ie (ab w.calls n))},true):=by
  unfold bX;dsimp only;rw[if_pos om];unfold gz;dsimp only;rw[if_neg om,show(ev 2 0 (ab w.calls n).ao).ao=(ab w.calls n).ao from rfl,KU,if_neg om,if_neg om,Int.toNat_natCast]
 unfold ct;rw[hd];dsimp only;rw[if_pos rfl,h.al,El (by have:=akf (h.calm.inv.aK.call hn);simp;omega)];rfl
def CZ {w:aj} (h:gB w) (hr:Rest w) {n:Nat} (hn:n<w.calls.length) (hw:cD (ab w.calls n)=true):Ask w n (ct w (ev 2 0 (ab w.calls n).ao)):=by
 have e:=CY h hn hw;have U:∀j,sv (ct w (ev 2 0 (ab w.calls n).ao)) j=sv w j:=λj=>by rw[e];rfl
 refine⟨h.calm.frame (tp h.calm.inv _) (h.calm.more.lift h.calm.inv _) (by rw[e]),λi hi k hk=>by rw[U];exact hr i hi k hk,λj _=>by rw[U],by rw[e];exact hn,?_⟩;rw[e];exact jR.refl _
def Mp {w:aj} (h:gB w) (hr:Rest w) {n:Nat} (hn:n<w.calls.length) (hw:cD (ab w.calls n)=true) {m0:ax} (h0:m0∈asks (ab w.calls n)) (gj:c7 m0.key=true) {D E:aj->Prop} {A:ax->Prop}
 (hE0:∀x,x.calls=w.calls->E x) (hE:∀x m r,Ask w n x->x.al=m::r->E x->E (dQ x)) (qU:∀x m r,Ask w n x->E x->x.al=m::r->D x->D (dQ x)) (p6:∀x,cD (ab x.calls n)=false->D x)
 (akh:∀x j,j<4->Ask w n x->E x->¬D x->cM (sv x j) m0.key=1->j/2=(ab w.calls n).ao.toNat->∀m,m={m0 with aO:=10+(ab w.calls n).ao,to:=(j:Int),call:=(ab w.calls n).num}->bI m=true->dX x m->∃y,(cK (sv x j) m).2=[y]/\y.to=m.aO/\A y)
 (aki:∀x m r,Ask w n x->E x->x.al=m::r->cD (ab x.calls n)=true->m.to=10+(ab x.calls n).ao->A m->bI m=true->(dQ x).calls=x.calls.set n (cP (ab x.calls n) m (x.time+1))->D (dQ x)):
 D (gv w (ab w.calls n).ao.toNat):=by
 have bq:=ou h.calm.inv.aK (bf hn);have e:=CY h hn hw;have U:=CZ h hr hn hw;have j8:(cL m0.key).toNat<3:=by have:=EG gj;omega
 obtain⟨j,hj,nL,CV⟩:=Lf h.calm.inv hr bq.1 j8;show D (db 1000 (ct w (ev 2 0 (((ab w.calls n).ao.toNat:Nat):Int))));rw[bq.2];refine Gx (R:=λx=>Ask w n x/\E x) (D:=D) (Q:=λm=>m={m0 with aO:=10+(ab w.calls n).ao,to:=(j:Int),call:=(ab w.calls n).num}\/(m.to=10+(ab w.calls n).ao/\A m)) (λx hx=>hx.1.calm.inv) (λx m r hx dm=>⟨hx.1.pop dm,hE x m r hx.1 dm hx.2⟩) (λx m r hx dm=>qU x m r hx.1 hx.2 dm) ?_ ⟨U,hE0 _ (by rw[e])⟩ ?_
 .rintro x m r ⟨hx,Mq⟩ dm hq;by_cases hD:D x
  .exact .inl (qU x m r hx Mq dm hD)
  have dq:m∈x.al:=by rw[dm];simp
  have hm:=hx.calm.inv.aK.words m dq;have g:=hx.calm.inv.words m dq;rcases hq with rfl|⟨q1,q2⟩
  .right;obtain⟨y,y1,y2,y3⟩:=akh x j hj hx Mq hD (by unfold cM;rw[hx.aw j hj];exact CV) nL _ rfl hm g;obtain⟨_,l,l1,l2⟩:=yd hx.calm.inv dm hj (show _=(j:Int) from rfl);rw[y1] at l2;exact⟨y,by rw[l1,l2];simp,.inr ⟨y2,y3⟩⟩
  left;cases ox:cD (ab x.calls n) with
  |false=>exact p6 _ (by unfold dQ;rw[sL.U3 hx.len ox];exact ox)
  |true=>
   have ey:m.to=10+(ab x.calls n).ao:=by rw[hx.same.1];exact q1
   exact aki x m r hx Mq dm ox ey q2 hm (akb hx.calm.inv dm hx.len ox ey)
 right;rw[e];refine⟨_,?_,.inl rfl⟩;show _∈ie (ab w.calls n);unfold ie;rw[if_pos hw];refine List.mem_flatten.2 ⟨_,List.mem_map.2 ⟨m0,h0,rfl⟩,?_⟩;unfold jr;rcases(by omega:(j:Int)=2*(ab w.calls n).ao\/(j:Int)=2*(ab w.calls n).ao+1) with e2|e2
 .rw[e2];exact List.mem_cons_self
 rw[e2];exact List.mem_cons_of_mem _ List.mem_cons_self
def U6 {q:Call} {t:Int} (h:dH q t):ab q.keys 0∈q.keys:=bf (by
 have:=h.keys;unfold iu at this;simp only[Bool.and_eq_true,Bool.or_eq_true,beq_iff_eq,aH,decide_eq_true_eq] at this;omega)
def akj {w:aj} (h:gB w) (hr:Rest w) {n:Nat} (hn:n<w.calls.length) (hw:cD (ab w.calls n)=true) (hk:(ab w.calls n).kind=1):cD (ab (gv w (ab w.calls n).ao.toNat).calls n)=false:=by
 have hg:=h.calm.inv.aK.call hn;have bq:=ou h.calm.inv.aK (bf hn);have gj:c7 (ab (ab w.calls n).keys 0)=true:=by
  have:=Kc hg (od.2 (U6 hg));simp only[c7,aH,Bool.and_eq_true,decide_eq_true_eq];omega
 refine Mp h hr hn hw (m0:={bW with kind:=1,key:=ab (ab w.calls n).keys 0,val:=(ab w.calls n).val,aQ:=(ab w.calls n).ctx}) (by unfold asks;rw[if_pos hk];simp) gj
  (D:=λx=>cD (ab x.calls n)=false) (A:=λy=>y.kind=2/\di y.aq=true/\y.call=(ab w.calls n).num/\y.key=ab (ab w.calls n).keys 0) (E:=λ_=>True) (λ_ _=>trivial) (λ_ _ _ _ _ _=>trivial) ?_ (λ_ h=>h) ?_ ?_
 .intro x m r hx _ dm hd;unfold dQ;rw[sL.U3 hx.len hd];exact hd
 .rintro x j hj hx _ _ be Mr m rfl hm g;obtain⟨st,s1,s2⟩:=akc hx.calm hj hm g rfl rfl (by show 10<=10+_/\10+_<=11;omega) hg.num.1 be;exact⟨_,s2,rfl,rfl,s1,rfl,rfl⟩
 rintro x m r hx _ dm ox ey ⟨a1,a2,a3,a4⟩ hm wi;rw[wi,eO hx.len,if_pos rfl,LN hx.calm.inv hx.len ox hm ey (by rw[hx.same.2.1];exact a3) (by rw[hx.same.2.2.2.1,a4];exact od.2 (U6 hg)),if_pos (by rw[hx.same.2.2.1];exact hk),if_pos ⟨a1,a2⟩];unfold cD;have:=hx.calm.inv.aK.time;rw[Bool.and_eq_false_iff];left;simp only[beq_eq_false_iff_ne];omega
def U7 {x:aj} {m:ax} {r:List ax} (hx:x.al=m::r) {n:Nat} (h:mD (ab x.calls n)):mD (ab (dQ x).calls n):=by
 rcases yf hx with e|⟨k,hk,jz,e⟩
 .rw[e];exact h
 rw[e,eO hk];split
 .rename_i e2;subst e2;intro _;obtain⟨h1,h2⟩:=h jz;have hS:=FL (ab x.calls n) m (x.time+1);exact⟨by rw[hS.2.2.1];exact h1,λκ hκ=>T6 (h2 κ (by rw[hS.2.2.2.1] at hκ;exact hκ)) m _⟩
 exact h
def akk {w:aj} (h:gB w) (hr:Rest w) {n:Nat} (hn:n<w.calls.length) (hw:cD (ab w.calls n)=true) (hk:(ab w.calls n).kind≠1) {κ:Int} (hκ:κ∈(ab w.calls n).keys):cD (ab (gv w (ab w.calls n).ao.toNat).calls n)=true->∃a∈(ab (gv w (ab w.calls n).ao.toNat).calls n).aC,a.key=κ:=by
 have hg:=h.calm.inv.aK.call hn;have bq:=ou h.calm.inv.aK (bf hn);have qU:∀x m r,Ask w n x->x.al=m::r->(cD (ab x.calls n)=true->∃a∈(ab x.calls n).aC,a.key=κ)->(cD (ab (dQ x).calls n)=true->∃a∈(ab (dQ x).calls n).aC,a.key=κ):=by
  intro x m r hx dm hd;rcases yf dm with e|⟨k,hk,jz,e⟩
  .rw[e];exact hd
  rw[e,eO hk];split
  .rename_i e2;subst e2;exactλ_=>T6 (hd jz) m _
  exact hd
 by_cases h0:∃a∈(ab w.calls n).aC,a.key=κ
 .have U:=CZ h hr hn hw;have e:=CY h hn hw;have:=pb (R:=λx=>Ask w n x/\(cD (ab x.calls n)=true->∃a∈(ab x.calls n).aC,a.key=κ)) (λx m r hx dm=>⟨hx.1.pop dm,qU x m r hx.1 dm hx.2⟩) 1000 ⟨U,λ_=>by rw[e];exact h0⟩;show cD (ab (db 1000 (ct w (ev 2 0 (((ab w.calls n).ao.toNat:Nat):Int)))).calls n)=true->∃a∈(ab (db 1000 (ct w (ev 2 0 (((ab w.calls n).ao.toNat:Nat):Int)))).calls n).aC,a.key=κ;rw[bq.2];exact this.2
 have akl:cm (ab w.calls n) κ<0:=by
  rcases Int.lt_or_le (cm (ab w.calls n) κ) 0 with bw|hle
  .exact bw
  exact absurd (vI.1 hle) h0
 have hkr:=Kc hg (od.2 hκ);refine Mp h hr hn hw (m0:={bW with kind:=3,key:=κ}) ?_ (by show c7 κ=true;simp only[c7,aH,Bool.and_eq_true,decide_eq_true_eq];omega)
  (D:=λx=>cD (ab x.calls n)=true->∃a∈(ab x.calls n).aC,a.key=κ) (A:=λy=>y.kind=4/\y.call=(ab w.calls n).num/\y.key=κ/\dS y.aq=true/\(y.yes=true->y.ai.length=1/\(ab y.ai 0).key=y.key)) (E:=λ_=>True) (λ_ _=>trivial) (λ_ _ _ _ _ _=>trivial) (λx m r hx _=>qU x m r hx) (λx h1 h2=>by rw[h1] at h2;cases h2) ?_ ?_
 .unfold asks;rw[if_neg hk];exact List.mem_append_left _ (List.mem_map.2 ⟨κ,List.mem_filter.2 ⟨hκ,by simpa using akl⟩,rfl⟩)
 .rintro x j hj hx _ _ be Mr m rfl hm g;have CW:=T7 hx.calm hj hm rfl rfl (by show 10<=10+_/\10+_<=11;omega) hg.num.1 be;refine⟨_,CW.trans (if_pos rfl),rfl,rfl,rfl,rfl,rfl,λhy=>?_⟩;obtain⟨v,hv⟩:=Option.isSome_iff_exists.1 hy;have kR:dV (sv x j).ai κ=some v:=hv;show((dV (sv x j).ai κ).toList).length=1/\(ab ((dV (sv x j).ai κ).toList) 0).key=κ;rw[kR];exact⟨rfl,(rv kR).2⟩
 rintro x m r hx _ dm ox ey ⟨a1,a2,a3,a4,a5⟩ hm wi _;rw[wi,eO hx.len,if_pos rfl,LN hx.calm.inv hx.len ox hm ey (by rw[hx.same.2.1];exact a2) (by rw[hx.same.2.2.2.1,a3];exact od.2 hκ),if_neg (by rw[hx.same.2.2.1];exact hk)];have:=ahh (q:=ab x.calls n) (t:=x.time+1) a1 a5 a4;rwa[a3] at this
def akm {q:Call} {t:Int} (h:dH q t):q.keys.Pairwise λa b=>a≠b:=by
 have:=h.keys;unfold iu lj at this;rw[Bool.and_eq_true,EW (less:=mR) (λh1 h2=>by unfold mR at*;rw[decide_eq_true_eq] at*;omega)] at this;exact this.1.2.imp λ{a b} hl e=>by unfold mR at hl;rw[decide_eq_true_eq] at hl;omega
def U8 {q:Call} {t:Int} (h:dH q t) (aT:∀κ∈q.keys,∃a∈q.aC,a.key=κ):q.aC.length=q.keys.length:=by
 have h1:q.keys.length<=q.aC.length:=CB (P:=λκ i=>(ab q.aC i).key=κ) (λx y i hx hy=>hx.symm.trans hy) q.aC.length (akm h) λκ hκ=>by
  obtain⟨a,ha,e⟩:=aT κ hκ;obtain⟨i,hi,rfl⟩:=gm ha;exact⟨i,hi,e⟩
 have h2:(q.aC.map Answer.key).length<=q.keys.length:=CB (P:=λκ i=>ab q.keys i=κ) (λx y i hx hy=>hx.symm.trans hy) q.keys.length (List.pairwise_map.2 (h.sorted.imp λ{a b} hl e=>by
  unfold gW at hl;rw[decide_eq_true_eq] at hl;omega)) λκ hκ=>by
  obtain⟨a,ha,rfl⟩:=List.mem_map.1 hκ;obtain⟨i,hi,e⟩:=gm (od.1 (h.has a ha));exact⟨i,hi,e⟩
 rw[List.length_map] at h2;omega
def U9 {q:Call} {m:ax} {t:Int} (aT:∀κ∈q.keys,∃a∈q.aC,a.key=κ):∀d∈(cP q m t).aL,d∈q.aL:=by
 unfold cP;split
 .rename_i hc;simp only[Bool.and_eq_true] at hc;have hp:¬cm q m.key<0:=by
   have:=vI.2 (aT m.key (od.1 hc.1.1.2));omega
  split
  .split<;>exactλd hd=>hd
  unfold ig;split
  .try rw[if_neg hp]
   split
   .unfold lu;split
    .dsimp only;split<;>exactλd hd=>(List.mem_filter.1 hd).1
    exactλd hd=>hd
   exactλd hd=>hd
  exactλd hd=>hd
 exactλd hd=>hd
def akn {q:Call} {m:ax} {t:Int} {v:aE} (hg:0<=cm q m.key) (h4:m.kind=4) (hy:m.yes=true) (hv:m.ai=[v]) (hk:v.key=m.key):v.aU∉(ig q m t).aL:=by
 have e0:ab m.ai 0=v:=by rw[hv];rfl
 have ea:(dh m).bl=v:=by unfold dh;rw[hy,if_pos rfl,e0]
 unfold ig;rw[if_pos ⟨h4,λ_=>⟨by rw[hv];rfl,by rw[e0];exact hk⟩⟩,if_neg om,if_pos hy];unfold lu;rw[ea];split
 .dsimp only;split
  .intro hd;have:=(List.mem_filter.1 hd).2;simp at this
  intro hd;have:=(List.mem_filter.1 hd).2;simp at this
 assumption
def ako {w:aj} (h:gB w) (hr:Rest w) {n:Nat} (hn:n<w.calls.length) (hw:cD (ab w.calls n)=true) (hF:mD (ab w.calls n)):cD (ab (gv w (ab w.calls n).ao.toNat).calls n)=false:=by
 have hg:=h.calm.inv.aK.call hn;have bq:=ou h.calm.inv.aK (bf hn);obtain⟨hk,aT⟩:=hF hw;have U:=CZ h hr hn hw;have wi:(ct w (ev 2 0 (ab w.calls n).ao)).calls=w.calls:=by rw[CY h hn hw]
 have Va:∀x m r,Ask w n x->x.al=m::r->(mD (ab x.calls n)/\(cD (ab x.calls n)=true->∀d∈(ab x.calls n).aL,d∈(ab w.calls n).aL))->(mD (ab (dQ x).calls n)/\(cD (ab (dQ x).calls n)=true->∀d∈(ab (dQ x).calls n).aL,d∈(ab w.calls n).aL)):=by
  intro x m r hx dm hE;refine⟨U7 dm hE.1,?_⟩;rcases yf dm with e|⟨k,hk,jz,e⟩
  .rw[e];exact hE.2
  rw[e,eO hk];split
  .rename_i e2;subst e2;exactλ_ d hd=>hE.2 jz d (U9 (hE.1 jz).2 d hd)
  exact hE.2
 have p6:=pb (R:=λx=>Ask w n x/\(mD (ab x.calls n)/\(cD (ab x.calls n)=true->∀d∈(ab x.calls n).aL,d∈(ab w.calls n).aL))) (λx m r hx dm=>⟨hx.1.pop dm,Va x m r hx.1 dm hx.2⟩) 1000 ⟨U,by rw[wi];exact⟨hF,λ_ d hd=>hd⟩⟩;have akp:gv w (ab w.calls n).ao.toNat=db 1000 (ct w (ev 2 0 (ab w.calls n).ao)):=by
  show db 1000 (ct w (ev 2 0 (((ab w.calls n).ao.toNat:Nat):Int)))=_;rw[bq.2]
 rw[<-akp] at p6;cases ox:cD (ab (gv w (ab w.calls n).ao.toNat).calls n) with
 |false=>rfl
 |true=>
  exfalso
  obtain⟨hA,Vb,hN⟩:=p6
  have hlen:=U8 (hA.calm.inv.aK.call hA.len) (Vb ox).2
  have aX:=hA.calm.more.Tz _ (bf hA.len) ox (Vb ox).1 hlen
  obtain⟨d,hd⟩:=List.exists_mem_of_ne_nil _ aX
  have vQ:=hN ox d hd
  have key:cD (ab (gv w (ab w.calls n).ao.toNat).calls n)=true->d∉(ab (gv w (ab w.calls n).ao.toNat).calls n).aL:=by
   have q6:ka d=true:=BC hg.aL d vQ;have akq:c7 d.key=true:=by unfold ka at q6;rw[Bool.and_eq_true] at q6;exact q6.1
   have vU:dS d.aq=false:=by unfold ka at q6;rw[Bool.and_eq_true] at q6;exact PD q6.2
   have Fv:d.key∈(ab w.calls n).keys:=by
    obtain⟨a,ha,e,_⟩:=(Fg hg.sorted).1 (hg.vR d vQ);rw[<-e];exact od.1 (hg.has a ha)
   refine Mp h hr hn hw (m0:={bW with kind:=3,key:=d.key,aq:=d.aq}) ?_ akq
    (D:=λx=>cD (ab x.calls n)=true->d∉(ab x.calls n).aL) (A:=λy=>y.kind=4/\y.call=(ab w.calls n).num/\y.key=d.key/\y.yes=true/\∃v,y.ai=[v]/\v.aU=d)
    (E:=λx=>mD (ab x.calls n)/\(cD (ab x.calls n)=true->∀d∈(ab x.calls n).aL,d∈(ab w.calls n).aL)) (λx hx=>by rw[hx];exact⟨hF,λ_ d hd=>hd⟩) Va ?_ (λx h1 h2=>by rw[h1] at h2;cases h2) ?_ ?_
   .unfold asks;rw[if_neg hk];exact List.mem_append_right _ (List.mem_map.2 ⟨d,vQ,rfl⟩)
   .intro x m r hx hE dm hD;rcases yf dm with e|⟨k,hk,jz,e⟩
    .rw[e];exact hD
    rw[e,eO hk];split
    .rename_i e2;subst e2;exactλ_ uk=>hD jz (U9 (hE.1 jz).2 d uk)
    exact hD
   .rintro x j hj hx hE hD be Mr m rfl hm g;have hD2:cD (ab x.calls n)=true/\d∈(ab x.calls n).aL:=by
     refine Classical.byContradiction λhc=>hD λh1 h2=>hc ⟨h1,h2⟩
    obtain⟨Vc,hxd⟩:=hD2;have mJ:=U8 (hx.calm.inv.aK.call hx.len) (hE.1 Vc).2;obtain⟨C,_,_,c3⟩:=(hx.calm.inv.aC _ (bf hx.len)).full (hE.1 Vc).1 mJ;obtain⟨_,u,hu,e,_⟩:=c3 d hxd;rw[hx.same.1,<-Mr] at hu;obtain⟨v,v1,v2⟩:=ahi hx.calm.inv hj ⟨u,hu,e⟩ be;have CW:=T7 hx.calm hj hm rfl rfl (by show 10<=10+_/\10+_<=11;omega) hg.num.1 be;have akt:=CW.trans (if_neg (by show¬dS d.aq=true;rw[vU];decide));have v1':eE (sv x j).ai ⟨d.key,d.aq⟩=some v:=v1;refine⟨lM (sv x j) {{bW with kind:=3,key:=d.key,aq:=d.aq} with aO:=10+(ab w.calls n).ao,to:=(j:Int),call:=(ab w.calls n).num} (some v),?_,rfl,rfl,rfl,rfl,rfl,v,rfl,v2⟩;rw[akt];show(match eE (sv x j).ai ⟨d.key,d.aq⟩ with|some v=>[lM (sv x j) _ (some v)]|none=>[])=_;rw[v1']
   rintro x m r hx hE dm Ms ey ⟨a1,a2,a3,a4,v,a5,a6⟩ hm akv _;have oi:=(hE.1 Ms).1;have xX:=vI.2 ((hE.1 Ms).2 d.key (by rw[hx.same.2.2.2.1];exact Fv));rw[akv,eO hx.len,if_pos rfl,LN hx.calm.inv hx.len Ms hm ey (by rw[hx.same.2.1];exact a2) (by rw[hx.same.2.2.2.1,a3];exact od.2 Fv),if_neg oi];have:=akn (q:=ab x.calls n) (t:=x.time+1) (by rw[a3];exact xX) a1 a4 a5 (by rw[a3];exact congrArg au.key a6);rwa[a6] at this
  exact key ox hd
def Vd {w:aj} (h:w.al=[]):∀n,db n w=w
 |0=>rfl
 |n+1=>by unfold db;rw[h];rfl
def Ve {w:aj} (h:Inv w) (hm:iz w):Calm (lE w):=by
 rw[Ab];have i1:=tp h (ev 7 ((0:Nat):Int) 0);have i2:=tp i1 (ev 7 ((1:Nat):Int) 0);have i3:=tp i2 (ev 7 ((2:Nat):Int) 0);have i4:=tp i3 (ev 7 ((3:Nat):Int) 0);have u0:=Gf h (i:=0) aN;have u1:=Gf i1 (i:=1) aN;have u2:=Gf i2 (i:=2) aN;have u3:=Gf i3 (i:=3) aN;refine⟨i4,(((hm.lift h _).lift i1 _).lift i2 _).lift i3 _,λi hi=>?_⟩;rcases(by omega:i=0\/i=1\/i=2\/i=3) with rfl|rfl|rfl|rfl
 .exact u3.2 _ (u2.2 _ (u1.2 _ u0.1))
 .exact u3.2 _ (u2.2 _ u1.1)
 .exact u3.2 _ u2.1
 exact u3.1
def uK (w:aj):aj:=gv (gv w 0) 1
def yg (w:aj):fN w=uK (il (db 1000 (lE w))):=by
 unfold fN uK;rw[aj2,show List.range 2=[0,1] from rfl];simp only[List.foldl_cons,List.foldl_nil]
def Vf {w:aj} (h:gB w):fN w=uK (il w):=by rw[yg,Ut h.calm,Vd h.al]
def akw {x:aj} {m:ax} {r:List ax} (hx:x.al=m::r):km x (dQ x):=by
 rcases yf hx with e|⟨k,hk,jz,e⟩
 .exact .of e
 refine⟨by rw[e,List.length_set],λn hn=>?_,λn hn he=>?_,λn hn hf=>U7 hx hf⟩
 .rw[e,eO hk];split
  .rename_i e2;subst e2;exact FL _ _ _
  exact jR.refl _
 rw[e,eO hk,if_neg];rintro rfl;rw[he] at jz;cases jz
def Mt {w:aj} (n:Nat):km w (db n w):=pb (R:=λx=>km w x) (λ_ _ _ h hx=>h.trans (akw hx)) n (.of rfl)
def GC (w:aj) (i:Nat):km w (fM w i):=(km.of (aiw w i)).trans (Mt 1000)
def pd (w:aj) (c:Nat):km w (gv w c):=(km.of (aix w c)).trans (Mt 1000)
def GD (w:aj):km w (il w):=(GC w 0).trans ((GC _ 1).trans ((GC _ 2).trans (GC _ 3)))
def Vg (w:aj):km w (fN w):=by
 rw[yg];exact(aiy w).trans ((Mt 1000).trans ((GD _).trans ((pd _ 0).trans (pd _ 1))))
def An {w:aj} (h:gB w) {c:Nat} (hc:∀n,n<w.calls.length->(ab w.calls n).ao=(c:Int)->cD (ab w.calls n)=false):gv w c=w:=by
 have hn:bY w.calls (c:Int)<0:=by
  rcases Int.lt_or_le (bY w.calls (c:Int)) 0 with bw|hle
  .exact bw
  obtain⟨a1,a2,a3⟩:=l5 hle;rw[hc _ a1 a2] at a3;cases a3
 have e:ct w (ev 2 0 (c:Int))=w:=by
  have hk:(ev 2 0 (c:Int)).kind=2:=rfl;have hd:(bX w (ev 2 0 (c:Int))).2=false:=by
   unfold bX;dsimp only;rw[if_pos om];unfold gz;dsimp only;rw[if_neg om,if_pos (show bY w.calls (ev 2 0 (c:Int)).ao<0 from hn)]
  unfold ct;rw[hd];rfl
 unfold gv;rw[e,Vd h.al]
def C0 {w:aj} (h:gB w) (hr:Rest w) (c:Nat):gB (gv w c)/\Rest (gv w c):=by
 by_cases hc:∃n,n<w.calls.length/\(ab w.calls n).ao=(c:Int)/\cD (ab w.calls n)=true
 .obtain⟨n,hn,e,hw⟩:=hc;have U:=CZ h hr hn hw;rw[e] at U;exact⟨CT U.calm,U.rest.ow U.calm 1000⟩
 rw[An h λn hn e=>by
  cases hw:cD (ab w.calls n) with
  |false=>rfl
  |true=>exact absurd ⟨n,hn,e,hw⟩ hc]
 exact⟨h,hr⟩
def Vh {w:aj} (h:gB w) (hr:Rest w) (c:Nat) {n:Nat} (hn:n<w.calls.length) (e:(ab w.calls n).ao=(c:Int)):mD (ab (gv w c).calls n):=by
 have hk:=pd w c;cases hw:cD (ab w.calls n) with
 |false=>exact hk.filled n hn λh2=>by rw[hw] at h2;cases h2
 |true=>
  have ec:(ab w.calls n).ao.toNat=c:=by omega
  by_cases lJ:(ab w.calls n).kind=1
  .have:=akj h hr hn hw lJ
   rw[ec] at this
   exactλh2=>by rw[this] at h2;cases h2
  intro h2
  refine⟨by rw[(hk.same n hn).2.2.1];exact lJ,λκ hκ=>?_⟩
  rw[(hk.same n hn).2.2.2.1] at hκ
  have:=akk h hr hn hw lJ hκ
  rw[ec] at this
  exact this h2
def Vi {w:aj} (h:gB w) (hr:Rest w) (c:Nat) {n:Nat} (hn:n<w.calls.length) (e:(ab w.calls n).ao=(c:Int)) (hF:mD (ab w.calls n)):cD (ab (gv w c).calls n)=false:=by
 cases hw:cD (ab w.calls n) with
 |false=>rw[(pd w c).ended n hn hw];exact hw
 |true=>
  have:=ako h hr hn hw hF
  rwa[show(ab w.calls n).ao.toNat=c by omega] at this
def akx {w:aj} (h:gB w) (hr:Rest w):gB (uK w)/\Rest (uK w)/\∀n,n<w.calls.length->mD (ab (uK w).calls n):=by
 obtain⟨s0,r0⟩:=C0 h hr 0;obtain⟨s1,r1⟩:=C0 s0 r0 1;refine⟨s1,r1,λn hn=>?_⟩;have hk:=pd w 0;have C1:n<(gv w 0).calls.length:=by rw[hk.len];exact hn
 have bq:=ou h.calm.inv.aK (bf hn);rcases(by omega:(ab w.calls n).ao=((0:Nat):Int)\/(ab w.calls n).ao=((1:Nat):Int)) with e|e
 .exact(pd _ 1).filled n C1 (Vh h hr 0 hn e)
 exact Vh s0 r0 1 C1 (by rw[(hk.same n hn).1];exact e)
def aky {w:aj} (h:gB w) (hr:Rest w) (hF:∀n,n<w.calls.length->mD (ab w.calls n)):∀n,n<w.calls.length->cD (ab (uK w).calls n)=false:=by
 obtain⟨s0,r0⟩:=C0 h hr 0;intro n hn;have hk:=pd w 0;have C1:n<(gv w 0).calls.length:=by rw[hk.len];exact hn
 have bq:=ou h.calm.inv.aK (bf hn);rcases(by omega:(ab w.calls n).ao=((0:Nat):Int)\/(ab w.calls n).ao=((1:Nat):Int)) with e|e
 .have he:=Vi h hr 0 hn e (hF n hn);show cD (ab (gv (gv w 0) 1).calls n)=false;rw[(pd _ 1).ended n C1 he];exact he
 exact Vi s0 r0 1 C1 (by rw[(hk.same n hn).1];exact e) (hk.filled n hn (hF n hn))
def Vj {w:aj} (h:gB w) (hr:Rest w) (hp:xl w) (c:Nat) (hF:∀n,n<w.calls.length->mD (ab w.calls n)):xl (gv w c):=by
 by_cases hc:∃n,n<w.calls.length/\(ab w.calls n).ao=(c:Int)/\cD (ab w.calls n)=true
 .obtain⟨n,hn,e,hw⟩:=hc;have U:=CZ h hr hn hw;have hl:=CY h hn hw;have E9:=(hF n hn hw).1;have ph:Phase w 2 (ct w (ev 2 0 (ab w.calls n).ao)):=by
   refine⟨U.calm,U.rest,?_,U.aw,λj _ d hd=>by rw[hl] at hd;exact hd⟩;rw[hl];show∀m∈ie (ab w.calls n),2<=m.kind;intro m hm;unfold ie at hm;rw[if_pos hw] at hm;obtain⟨ws,h1,h2⟩:=List.mem_flatten.1 hm;obtain⟨x,hx,rfl⟩:=List.mem_map.1 h1;have oi:x.kind=3:=by
    unfold asks at hx;rw[if_neg E9] at hx;rcases List.mem_append.1 hx with hx|hx
    .obtain⟨_,_,rfl⟩:=List.mem_map.1 hx;rfl
    obtain⟨_,_,rfl⟩:=List.mem_map.1 hx;rfl
   unfold jr at h2;rcases List.mem_cons.1 h2 with rfl|h2
   .show 2<=x.kind;omega
   obtain rfl:=List.mem_singleton.1 h2;show 2<=x.kind;omega
  rw[e] at ph;have hb:Phase w 2 (gv w c):=ph.ow aN 1000;exactλi hi=>List.eq_nil_iff_forall_not_mem.2 λd hd=>by
   have:=hb.aD i hi d hd;rw[hp i hi] at this;simp at this
 rw[An h λn hn e=>by
  cases hw:cD (ab w.calls n) with
  |false=>rfl
  |true=>exact absurd ⟨n,hn,e,hw⟩ hc]
 exact hp
def Vk {w:aj} (h:Inv w) (e:Ev) {σ:Nat} {v:aE} (hv:bn w σ v):bn (ct w e) σ v:=by
 unfold ct;split
 .exact UD h e hv
 exact hv
def Ao {w:aj} (h:Inv w) (hm:iz w) (e:Ev):mc w (ct w e) 1:=⟨tp h e,hm.lift h e,λ_ _=>Vk h e,nK w e⟩
def Mu {w:aj} (h:Inv w) (hm:iz w):mc w (db 1000 w) 120:=by
 have hb:=pb (R:=λx=>Inv x/\iz x/\∀σ v,bn w σ v->bn x σ v) (λx _ _ hx _=>⟨tp hx.1 _,hx.2.1.lift hx.1 _,λσ v hv=>Vk hx.1 _ (hx.2.2 σ v hv)⟩) 1000 ⟨h,hm,λ_ _ hv=>hv⟩;have hw:=I8 w.al;have hl:=h.aK.al;have:=(Gw 1000 h om).2;exact⟨hb.1,hb.2.1,hb.2.2,by omega⟩
def GF {w:aj} (h:Inv w) (hm:iz w) (i:Nat):mc w (fM w i) 121:=by
 have h1:=Ao h hm (ev 8 (i:Int) 0);exact(h1.trans (Mu h1.inv h1.more)).mono om
def Vl {w:aj} (h:Inv w) (hm:iz w) (c:Nat):mc w (gv w c) 121:=by
 have h1:=Ao h hm (ev 2 0 (c:Int));exact(h1.trans (Mu h1.inv h1.more)).mono om
def C2 {w:aj} (h:Inv w) (hm:iz w):mc w (fN w) 850:=by
 rw[yg];have a1:=Ao h hm (ev 7 ((0:Nat):Int) 0);have a2:=a1.trans (Ao a1.inv a1.more (ev 7 ((1:Nat):Int) 0));have a3:=a2.trans (Ao a2.inv a2.more (ev 7 ((2:Nat):Int) 0));have a4:=a3.trans (Ao a3.inv a3.more (ev 7 ((3:Nat):Int) 0));rw[<-Ab] at a4;have b:=a4.trans (Mu a4.inv a4.more);have c0:=b.trans (GF b.inv b.more 0);have c1:=c0.trans (GF c0.inv c0.more 1);have c2:=c1.trans (GF c1.inv c1.more 2);have c3:=c2.trans (GF c2.inv c2.more 3);have d0:=c3.trans (Vl c3.inv c3.more 0);have d1:=d0.trans (Vl d0.inv d0.more 1);exact d1.mono om
def akz {w:aj} (h:Inv w) (hm:iz w):gB (fN w)/\Rest (fN w)/\∀n,n<(fN w).calls.length->mD (ab (fN w).calls n):=by
 have s:=Mi (CT (Ve h hm));have r:=US (CT (Ve h hm));obtain⟨a,b,f⟩:=akx s r;rw[yg];refine⟨a,b,λn hn=>f n ?_⟩;have:=((pd (il (db 1000 (lE w))) 0).trans (pd _ 1)).len;rw[<-this];exact hn
def akA {w:aj} (h:gB w) (hr:Rest w) (hF:∀n,n<w.calls.length->mD (ab w.calls n)):hO (fN w) 0/\l7 (fN w):=by
 rw[Vf h];have s:=Mi h;have r:=aj5 h hr;have p:=aj4 h hr;have k:=GD w;have f:∀n,n<(il w).calls.length->mD (ab (il w).calls n):=λn hn=>k.filled n (by rw[<-k.len];exact hn) (hF n (by rw[<-k.len];exact hn));obtain⟨s0,r0⟩:=C0 s r 0;obtain⟨s1,r1⟩:=C0 s0 r0 1;have k0:=pd (il w) 0;have p0:=Vj s r p 0 f;have p1:=Vj s0 r0 p0 1 λn hn=>k0.filled n (by rw[<-k0.len];exact hn) (f n (by rw[<-k0.len];exact hn));have he:=aky s r f;refine⟨⟨s1,r1,p1,λi hi v hv=>?_⟩,λn hn=>he n ?_⟩
 .have:=rl (iW (fi (s1.calm.inv.cQ hi).waits v hv)).2.1;omega
 have:=((pd (il w) 0).trans (pd _ 1)).len;rw[<-this];exact hn
def Vm {w:aj} {r:Int} (h:hO w r) (he:l7 w):fN w=il w/\hO (fN w) (r+1)/\l7 (fN w):=by
 have q:=h.U1.1;have k:=GD w;have uL:l7 (il w):=λn hn=>by
  rw[k.ended n (by rw[<-k.len];exact hn) (he n (by rw[<-k.len];exact hn))];exact he n (by rw[<-k.len];exact hn)
 have e0:gv (il w) 0=il w:=An q.still λn hn _=>uL n hn;have e1:gv (il w) 1=il w:=An q.still λn hn _=>uL n hn;have e:fN w=il w:=by
  rw[Vf h.still];unfold uK;rw[e0,e1]
 rw[e];exact⟨_root_.rfl,q,uL⟩
def hO.less {w:aj} {r s:Int} (h:hO w r) (U:s<=r):hO w s:=⟨h.still,h.rest,h.p9,λi hi v hv=>by have:=h.cU i hi v hv;omega⟩
def Mv:∀(n:Nat) {w:aj} {r:Int},hO w r->l7 w->w.time+850*n<=79999->hO (bA n w) (r+n)/\l7 (bA n w)/\mc w (bA n w) (850*n)/\(∀j,j<4->(sv (bA n w) j).aw=(sv w j).aw)/\(bA n w).calls=w.calls
 |0,w,r,h,he,_=>⟨h.less om,he,mc.rfl h.still.calm.inv h.still.calm.more,λ_ _=>rfl,rfl⟩
 |n+1,w,r,h,he,ht=>by
  obtain⟨e,q,uL⟩:=Vm h he;have g:=C2 h.still.calm.inv h.still.calm.more;obtain⟨a,b,d,f,k⟩:=Mv n q uL (by have:=g.time;omega);unfold bA;rw[if_pos om];refine⟨a.less om,b,(g.trans d).mono om,λj hj=>?_,?_⟩
  .rw[f j hj,e];exact h.U1.2.2.1 j hj
  rw[k,e];have kt:=GD w;refine List.ext_getElem kt.len λi h1 h2=>?_;have:=kt.ended i h2 (he i h2);simpa[ab,h1,h2] using this
def akB {w:aj} (h:Inv w) (hm:iz w) (ht:w.time<=40000):hO (bA 25 w) 20/\l7 (bA 25 w)/\mc w (bA 25 w) 21250/\km w (bA 25 w):=by
 have g1:=C2 h hm;obtain⟨s1,r1,f1⟩:=akz h hm;have g2:=C2 g1.inv g1.more;obtain⟨q2,e2⟩:=akA s1 r1 f1;obtain⟨q3,e3,g3,_,k3⟩:=Mv 23 q2 e2 (by have:=g1.time;have:=g2.time;omega);have e:bA 25 w=bA 23 (fN (fN w)):=by
  show(if w.time<79999 then bA 24 (fN w) else w)=_;rw[if_pos om];show(if(fN w).time<79999 then bA 23 (fN (fN w)) else fN w)=_;rw[if_pos (by have:=g1.time;omega)]
 rw[e];exact⟨q3.less om,e3,((g1.trans g2).trans g3).mono om,(Vg w).trans ((Vg _).trans (.of k3))⟩
def Vn:∀{l:List Ev} {w:aj},ez w=true->(runN w l).time<=w.time+l.length
 |[],w,_=>by show w.time<=_;omega
 |e::l,w,h=>by
  have h1:=Vn (l:=l) (Lc h e);have h2:(cW w e).1.time<=w.time+1:=by
   rw[Gu h];unfold eL;split
   .rw[xZ];exact Int.le_refl _
   show w.time<=_;omega
  show(runN (cW w e).1 l).time<=_;rw[List.length_cons];omega
def akC (l:List Ev):(bz l).time<=2000:=by
 unfold bz;split
 .decide
 have:=Vn (l:=l) (w:=dA) zU;have e:dA.time=0:=rfl;show(runN dA l).time<=2000;omega
def wo (l:List Ev):hO (bA 25 (bz l)) 20/\l7 (bA 25 (bz l))/\mc (bz l) (bA 25 (bz l)) 21250/\km (bz l) (bA 25 (bz l))/\(bA 25 (bz l)).time<=23250:=by
 have ht:=akC l;obtain⟨a,b,c,d⟩:=akB (r6 l).1 (ajY l) om;exact⟨a,b,c,d,by have:=c.time;omega⟩
def akD {a b:cY} (h:lr a b=true):¬(a.bD=1/\b.bD=1\/a.bD=0/\b.bD=0):=by
 simp only[lr,sN,tV,Bool.or_eq_true,Bool.and_eq_true,beq_iff_eq,bne_iff_ne] at h;rcases h with((h|h)|h)|h<;>omega
def akE (l:List Ev) {σ:Nat} (hσ:σ<2) {k:Nat} (hk:k<3):
 ¬((ab (sv (bz l) (2*σ)).aw k).bD=1/\(ab (sv (bz l) (2*σ+1)).aw k).bD=1\/(ab (sv (bz l) (2*σ)).aw k).bD=0/\(ab (sv (bz l) (2*σ+1)).aw k).bD=0)/\
 (ab (sv (bA 25 (bz l)) (2*σ)).aw k).bD+(ab (sv (bA 25 (bz l)) (2*σ+1)).aw k).bD=1:=by
 have e:bL (2*σ)=2*σ+1:=by unfold bL;rw[if_pos om]
 have hi:2*σ<4:=by omega
 have h:=(r6 l).1;obtain⟨a,_⟩:=wo l;have hx:=a.still.calm.inv;have f1:=h.fits (2*σ) hi k hk;have f2:=hx.fits (2*σ) hi k hk;have r1:=a.rest (2*σ) hi k hk;have r2:=a.rest (bL (2*σ)) (gX hi) k hk;rw[e] at f1 f2 r2;have s1:=CJ hx hi hk;have s2:=CJ hx (i:=2*σ+1) om hk;refine⟨akD f1,?_⟩;rcases IH f2 r1 r2 with h|h<;>omega
def akF {a b:aE} (h:a=b\/fG a b=true) (hk:a.key=b.key):bV b.aq a.aq=false:=by
 rcases h with rfl|h
 .exact yX _
 unfold fG eD at h;have e:a.aU.key=b.aU.key:=hk;rw[e] at h;have e1:a.aU.aq=a.aq:=rfl;have e2:b.aU.aq=b.aq:=rfl;simp only[e1,e2,bV] at h⊢;simp at h⊢;omega
def akG (l:List Ev) (key:Int):dV (cN (bA 25 (bz l)) 0) key=dV (cN (bA 25 (bz l)) 1) key/\
 ∀σ:Nat,σ<2->∀v,dV (cN (bz l) (σ:Int)) key=some v->∃a,dV (cN (bA 25 (bz l)) 0) key=some a/\bV a.aq v.aq=false:=by
 obtain⟨a,_,g,_⟩:=wo l;refine⟨by rw[Mn a],λσ hσ v hv=>?_⟩;obtain⟨h1,h2⟩:=ag2 (r6 l).1 hσ hv;have h3:=ye a (τ:=0) aN (g.dY σ v h1);have h4:=(nb a.still.calm.inv (σ:=0) aN).2 h3;obtain⟨t,t1,t2⟩:=U4 (tj a.still.calm.inv (σ:=0) aN) h4 h2;exact⟨t,t1,akF t2 (h2.trans (rv t1).2.symm)⟩
def akH {w:aj} (h:Inv w) {σ:Nat} (hσ:σ<2) (q:Call):jy q (cN w (σ:Int))<=1:=by
 unfold jy;have U:=FH (tj h hσ);have hm:∀v∈(cN w (σ:Int)).filter (uI q),bn w σ v/\v.ao=q.ao/\v.call=q.num:=λv hv=>by
  obtain⟨h1,h2⟩:=List.mem_filter.1 hv;unfold uI at h2;simp only[Bool.and_eq_true,beq_iff_eq] at h2;exact⟨(nb h hσ).1 h1,h2.1,h2.2⟩
 have hp:=U.sublist (List.filter_sublist (p:=uI q));revert hm hp;generalize (cN w (σ:Int)).filter (uI q)=l;intro hm hp;match l,hm,hp with
 |[],_,_=>exact Nat.zero_le _
 |[x],_,_=>exact Nat.le_refl _
 |x::y::r,hm,hp=>
  exfalso
  obtain⟨a1,a2,a3⟩:=hm x bk
  obtain⟨b1,b2,b3⟩:=hm y bk
  have:=h.once σ σ x y a1 b1 (a2.trans b2.symm) (a3.trans b3.symm)
  exact(List.pairwise_cons.1 hp).1 y bk (congrArg aE.aU this)
def akI {q:Call} {l:List aE} (h:0<jy q l):∃v∈l,v.ao=q.ao/\v.call=q.num:=by
 unfold jy at h;obtain⟨v,hv⟩:=List.exists_mem_of_length_pos h;obtain⟨h1,h2⟩:=List.mem_filter.1 hv;unfold uI at h2;simp only[Bool.and_eq_true,beq_iff_eq] at h2;exact⟨v,h1,h2.1,h2.2⟩
def akJ (l:List Ev) {q:Call} (hq:q∈(bA 25 (bz l)).calls):jy q (cN (bA 25 (bz l)) 0)=jy q (cN (bA 25 (bz l)) 1)/\jy q (cN (bA 25 (bz l)) 0)<=1/\
 (0<jy q (cN (bA 25 (bz l)) 0)->q.kind=1)/\(q.end_≠0->q.kind=1->0<jy q (cN (bA 25 (bz l)) 0)):=by
 obtain⟨a,_⟩:=wo l;have h:=a.still.calm.inv;refine⟨by rw[Mn a],akH h (σ:=0) aN q,λh0=>?_,λhe hk=>?_⟩
 .obtain⟨v,h1,h2,h3⟩:=akI h0;obtain⟨p,hp,c1,c2,c3,_⟩:=h.made 0 v ((nb h (σ:=0) aN).1 h1);rw[<-Cw h.aK hp hq (by rw[c1,h2]) (by rw[c2,h3])];exact c3
 obtain⟨v,v1,v2,v3,_⟩:=h.done q hq hk he;have:=(nb h (σ:=0) aN).2 (ye a (τ:=0) aN v1);exact aiz this v2 v3
structure pe (x y:aj):Prop where
 al:y.al=x.al
 calls:y.calls=x.calls
 ai:∀j,(sv y j).ai=(sv x j).ai
 waits:∀j,(sv y j).waits=(sv x j).waits
 aD:∀j,(sv y j).aD=(sv x j).aD
 aw:∀j,(sv y j).aw=(sv x j).aw
def pe.rfl {x:aj}:pe x x:=⟨_root_.rfl,_root_.rfl,λ_=>_root_.rfl,λ_=>_root_.rfl,λ_=>_root_.rfl,λ_=>_root_.rfl⟩
def Mw {w:aj} (h:Inv w) {σ:Nat} (hσ:σ<2):cg (cN w (σ:Int))=true:=uj.2 ⟨by
 have:=uH h (l:=(cN w (σ:Int)).map aE.aU) (List.pairwise_map.2 (FH (tj h hσ))) (λd hd=>by
  obtain⟨v,hv,rfl⟩:=List.mem_map.1 hd;exact⟨σ,v,(nb h hσ).1 hv,rfl⟩)
 rw[List.length_map] at this;omega,λv hv=>h.FZ ((nb h hσ).1 hv),tj h hσ⟩
def Ap (l:List Ev):Inv (bA 25 (bz l))/\ez (bA 25 (bz l))=true/\(bA 25 (bz l)).time<=23250:=by
 obtain⟨a,_,_,_,e⟩:=wo l;exact⟨a.still.calm.inv,iy.2 ⟨a.still.calm.inv.aK,by omega⟩,e⟩
def akK (l:List Ev) {q:Call} (hq:q∈(bA 25 (bz l)).calls):(tk (bA 25 (bz l)) q 2=0\/tk (bA 25 (bz l)) q 2=2/\q.kind=1)/\(q.end_≠0->q.kind=1->tk (bA 25 (bz l)) q 2=2):=by
 obtain⟨h1,h2,h3,h4⟩:=akJ l hq;have e:tk (bA 25 (bz l)) q 2=0+jy q (cN (bA 25 (bz l)) 0)+jy q (cN (bA 25 (bz l)) 1):=rfl;rw[e,<-h1];refine⟨?_,λa b=>by have:=h4 a b;omega⟩;by_cases h:0<jy q (cN (bA 25 (bz l)) 0)
 .exact .inr ⟨by omega,h3 h⟩
 exact .inl om
def Mx (l:List aE) (key:Int) (hc:cg l=true):
 Fn prog 32 [cn l,AV.int key] (AV.dy [((dV l key).getD default).av,AV.bool (dV l key).isSome]):=by
 refine Fn.go 15 func32 ntmps32 (λW I a U=>?_);refine sr<|U.alloc rfl bQ dO λb4 I a w U=>?_;refine aG λI a w U=>?_;refine U.o (.cl (zy l)) λU=>?_;refine aB λI a w U=>?_;refine U.cd (λae=>?_) λae=>?_
 .exfalso;rw[hc] at ae;cases ae;skip
 refine aG λI a w U=>?_;refine U.o (.cl (Kf l key (λv hv=>by have:=iE (iW (fi hc v hv)).2.2;omega))) λU=>?_;refine aZ λI a w U=>?_;refine U.ret rfl (.cons (.sx 0) (.cons (.t rfl) aW.nil)) ?_;rfl
def VL (code:List UInt8):
 Fn prog 11 [ia code] (AV.bool true):=by
 refine Fn.go 102 func11 ntmps11 (λW I a U=>?_);have hle:=U.eC (t:=0) rfl;refine aZ λI a w U=>?_;refine cz (λae=>?_) λae=>?_
 .refine bh ?_;rfl
 refine bK λI a w U=>?_;refine U.dj [] (Ac code om) (az .r aI) rfl aN rfl λl I a w Vo U=>?_;refine aG λI a w U=>?_;refine U.o (.cl (Aq l)) λU=>?_;refine U.alloc rfl dM ei λb4 I a w U=>?_;refine aB λI a w U=>?_;obtain⟨I,U⟩:=U.fb 0 4;refine U.m λU=>?_;refine U.o (.cl (Aa l)) λU=>?_;refine U.alloc rfl dM ei λb5 I a w U=>?_;refine aB λI a w U=>?_;obtain⟨I,U⟩:=U.fb 1 5;refine aG λI a w U=>?_;refine U.o (.c2 (z0 (bz l) (Ad _))) λU=>?_;refine aB λI a w U=>?_;refine U.cd (λah=>?_) λah=>?_
 .exfalso;simp at ah;skip
 refine wp_skip<|bj<|wp_seq ?_;obtain⟨hI,hT⟩:=r6 l;have jz:=wj l;have mq:=hI.aK;have nR:=Ae l;have C3:=mq.small.2.2.1.1;obtain⟨jT,lO,C4⟩:=Ap l;have C5:=jT.aK.aA;have C6:=jT.aK.small.2.2.1.1;refine bK λI a w U=>?_;refine U.o (.c1 (Aj (bz l) jz)) λU=>U.alloc rfl dM ei λb6 I a w U=>?_;refine aB λI a w U=>?_;obtain⟨I,U⟩:=U.fb 2 6;have U:=U.drop 0;refine aB λI a w U=>?_;refine St.lo (σ:=Nat) (2::(run 6 7 (run 74 28 []))) ⟨λi=>[(7,AV.int i)],λi=>[],λi=>i<=(bA 25 (bz l)).calls.length⟩ (λi=>(bA 25 (bz l)).calls.length-i) 0 U ?aJ ?bF;case aJ=>exact Nat.zero_le _
 rintro i I a w an U;have Vq:i<=(bA 25 (bz l)).calls.length:=an;refine cI λI a w U=>?_;refine cz (λar=>?_) λar=>?_
 .refine cj λI a w U=>?_;refine U.alloc rfl fI j4 λb8 I a w U=>?_;refine aB λI a w U=>?_;obtain⟨I,U⟩:=U.fb 0 8;have U:=U.drop 0;refine aF λI a w U=>?_;refine St.lo (σ:=Nat) (run 4 9 (run 33 40 [])) ⟨λs=>[(10,AV.int s),(9,AV.int (tk (bA 25 (bz l)) (ab (bA 25 (bz l)).calls i) s:Nat))],λs=>[],λs=>s<=2⟩ (λs=>2-s) 0 U ?eF ?jS;case eF=>exact Nat.zero_le _
  rintro s I a w an U;have fQ:s<=2:=an;refine aF λI a w U=>?_;refine cz (λaM=>?_) λaM=>?_
  .have GG:s<2:=by omega
   refine aG λI a w U=>?_;refine U.o (bT (rZ (bA 25 (bz l)) s lO om) (az (.t rfl) (az (.t rfl) aI))) λU=>?_;refine aB λI a w U=>?_;have jK:=Ue lO (s:=(s:Int)) om;have hsc:=Ux lO (ab (bA 25 (bz l)).calls i) (s:=s) om;refine aB λI a w U=>?_;refine St.GS (σ:=Nat) (9::(12::(run 26 47 []))) ⟨λk=>[(12,AV.int k),(9,AV.int (tk (bA 25 (bz l)) (ab (bA 25 (bz l)).calls i) s+jy (ab (bA 25 (bz l)).calls i) ((cN (bA 25 (bz l)) s).take k):Nat))],λk=>[],λk=>k<=(cN (bA 25 (bz l)) s).length⟩ (λk=>(cN (bA 25 (bz l)) s).length-k) 0 U rfl ?jh ?akL ?oY;case jh=>exact Nat.zero_le _
   case akL=>exact(Env.dK rfl eA (Env.dK rfl (by exact congrArg AV.int (aiA _ _ _)) Env.le_nil))
   rintro k I a w an U;have oh:k<=(cN (bA 25 (bz l)) s).length:=an;refine aZ λI a w U=>?_;refine cz (λaP=>?_) λaP=>?_
   .refine aB λI a w U=>?_;refine U.cd (λbx=>?_) λbx=>?_
    .have AQ:=Uw (ab (bA 25 (bz l)).calls i) ((cN (bA 25 (bz l)) s).take k);rw[List.length_take] at AQ;refine iP λI a w U=>?_;refine U.again (k+1) ?iG ?iH eA ?iI (by repeat(first|exact Env.le_rfl|refine Env.ja rfl ?_));case iG=>omega
     case iH=>show k+1<=_;omega
     case iI=>exact(Env.dK rfl eA (Env.dK rfl (by first|exact congrArg AV.int (Uu aP bx)|exact congrArg AV.int (Uv aP bx)) Env.le_nil))
    refine aR λI a w U=>?_;refine U.again (k+1) ?nC ?nD eA ?nE (by repeat(first|exact Env.le_rfl|refine Env.ja rfl ?_));case nC=>omega
    case nD=>show k+1<=_;omega
    case nE=>exact(Env.dK rfl eA (Env.dK rfl (by first|exact congrArg AV.int (Uu aP bx)|exact congrArg AV.int (Uv aP bx)) Env.le_nil))
   refine wp_exit<|cy<|cy<|fk<|wB<|bj ?_;dsimp only at U;rw[List.take_of_length_le om] at U;refine aR λI a w U=>?_;exact U.ag (s+1) (by show s+1<=_;omega)
  refine wp_exit<|cy<|cy<|fk<|bj<|wp_seq ?_;obtain rfl:s=2:=by omega
  obtain⟨oj,nI⟩:=akK l (bf ar);refine OC λI a w U=>?_;refine U.cd (λbt=>?_) λbt=>?_
  .exfalso;generalize tk (bA 25 (bz l)) (ab (bA 25 (bz l)).calls i) 2=z at bt oj nI;simp only[B] at bt;omega;skip
  refine aR λI a w U=>?_;exact U.ag (i+1) (by show i+1<=_;omega)
 refine zt ?_;refine bh ?_;rfl
def VP (code:List UInt8):
 Fn prog 12 [ia code] (AV.bool true):=by
 refine Fn.go 77 func12 ntmps12 (λW I a U=>?_);have hle:=U.eC (t:=0) rfl;refine aZ λI a w U=>?_;refine cz (λae=>?_) λae=>?_
 .refine bh ?_;rfl
 refine bK λI a w U=>?_;refine U.dj [] (Ac code om) (az .r aI) rfl aN rfl λl I a w aqn U=>?_;refine aG λI a w U=>?_;refine U.o (.cl (Aq l)) λU=>?_;refine U.alloc rfl dM ei λb4 I a w U=>?_;refine aB λI a w U=>?_;obtain⟨I,U⟩:=U.fb 0 4;refine U.m λU=>?_;refine U.o (.cl (Aa l)) λU=>?_;refine U.alloc rfl dM ei λb5 I a w U=>?_;refine aB λI a w U=>?_;obtain⟨I,U⟩:=U.fb 1 5;refine aG λI a w U=>?_;refine U.o (.c2 (z0 (bz l) (Ad _))) λU=>?_;refine aB λI a w U=>?_;refine U.cd (λah=>?_) λah=>?_
 .exfalso;simp at ah;skip
 refine wp_skip<|bj<|wp_seq ?_;obtain⟨hI,hT⟩:=r6 l;have jz:=wj l;have mq:=hI.aK;have nR:=Ae l;have C3:=mq.small.2.2.1.1;obtain⟨jT,lO,C4⟩:=Ap l;have C5:=jT.aK.aA;have C6:=jT.aK.small.2.2.1.1;refine bK λI a w U=>?_;refine U.o (.c1 (Aj (bz l) jz)) λU=>U.alloc rfl dM ei λb6 I a w U=>?_;refine aB λI a w U=>?_;obtain⟨I,U⟩:=U.fb 2 6;have U:=U.drop 0;refine aB λI a w U=>?_;refine St.lo (σ:=Nat) (2::(run 8 7 (run 47 30 []))) ⟨λk=>[(7,AV.int k)],λk=>[],λk=>k<=6⟩ (λk=>6-k) 0 U ?aJ ?bF;case aJ=>exact Nat.zero_le _
 rintro k I a w an U;have oh:k<=6:=an;refine aF λI a w U=>?_;refine cz (λar=>?_) λar=>?_
 .refine wp_skip<|bj<|wp_seq<|wp_block<|wp_seq ?_;have Vp:=akG l (k:Int);have mr:cg (cN (bA 25 (bz l)) 0)=true:=Mw jT (σ:=0) aN;have kT:cg (cN (bA 25 (bz l)) 1)=true:=Mw jT (σ:=1) aN;refine bK λI a w U=>?_;refine U.o (bT (rZ (bA 25 (bz l)) 0 lO om) (az (.t rfl) (az .c aI))) λU=>?_;refine U.m λU=>?_;refine U.o (.cl (Mx (cN (bA 25 (bz l)) 0) k mr)) λU=>?_;refine bm λI a w U=>?_;refine U.alloc rfl bQ dO λb8 I a w U=>?_;refine U.sb 0 λU=>?_;obtain⟨I,U⟩:=U.fb 0 8;refine aG λI a w U=>?_;refine U.o (bT (rZ (bA 25 (bz l)) 1 lO om) (az (.t rfl) (az .c aI))) λU=>?_;refine U.m λU=>?_;refine U.o (.cl (Mx (cN (bA 25 (bz l)) 1) k kT)) λU=>?_;refine bm λI a w U=>?_;refine U.alloc rfl bQ dO λl6 I a w U=>?_;refine U.sb 1 λU=>?_;obtain⟨I,U⟩:=U.fb 1 10;refine aB λI a w U=>?_;have U:=U.drop 0;rw[<-Vp.1] at U;refine aG λI a w U=>?_;refine U.o (Ds .tt .tt yM) λU=>?_;refine bm λI a w U=>?_;refine U.q .F (.cl (FP _)) λU=>?_;refine aF λI a w U=>?_;refine U.cd (λaM=>?_) λaM=>?_
  .exfalso;simp at aM;skip
  refine aB λI a w U=>?_;refine St.lo (σ:=Nat) (2::(run 3 12 (run 20 57 []))) ⟨λs=>[(12,AV.int s)],λs=>[],λs=>s<=2⟩ (λs=>2-s) 0 U ?eF ?jS;case eF=>exact Nat.zero_le _
  rintro s I a w an U;have fQ:s<=2:=an;refine aF λI a w U=>?_;refine px (λaP=>?_) λaP=>?_
  .have GG:s<2:=by omega
   refine aG λI a w U=>?_;refine U.o (bT (rZ (bz l) s jz om) (az (.t rfl) (az (.t rfl) aI))) λU=>?_;refine U.m λU=>?_;refine U.o (bT (Mx (cN (bz l) s) k (Mw hI om)) (az .r (az (.t rfl) aI))) λU=>?_;refine bm λI a w U=>?_;refine U.alloc rfl bQ dO λzJ I a w U=>?_;refine U.sb 0 λU=>?_;obtain⟨I,U⟩:=U.fb 0 13;refine aB λI a w U=>?_;have U:=U.drop 0;refine ee λI a w U=>?_;refine U.q .T (.cl (En ..)) λU=>?_;refine aB λI a w U=>?_;refine U.cd (λbx=>?_) λbx=>?_
   .exfalso;simp only[B] at bx;obtain⟨h1,h2⟩:=bx;obtain⟨v,hv⟩:=Option.isSome_iff_exists.1 h1;obtain⟨u,z7,rA⟩:=Vp.2 s GG v hv;rw[z7,hv] at h2;simp only[Option.getD_some] at h2;rw[rA] at h2;cases h2;skip
   refine aR λI a w U=>?_;have U:=U.drop 0;exact U.ag (s+1) (by show s+1<=_;omega)
  refine zt ?_;refine aR λI a w U=>?_;exact U.ag (k+1) (by show k+1<=_;omega)
 refine zt ?_;refine bh ?_;rfl
def VQ (code:List UInt8):
 Fn prog 10 [ia code] (AV.bool true):=by
 refine Fn.go 100 func10 ntmps10 (λW I a U=>?_);have hle:=U.eC (t:=0) rfl;refine aZ λI a w U=>?_;refine cz (λae=>?_) λae=>?_
 .refine bh ?_;rfl
 refine bK λI a w U=>?_;refine U.dj [] (Ac code om) (az .r aI) rfl aN rfl λl I a w Vo U=>?_;refine aG λI a w U=>?_;refine U.o (.cl (Aq l)) λU=>?_;refine U.alloc rfl dM ei λb4 I a w U=>?_;refine aB λI a w U=>?_;obtain⟨I,U⟩:=U.fb 0 4;refine U.m λU=>?_;refine U.o (.cl (Aa l)) λU=>?_;refine U.alloc rfl dM ei λb5 I a w U=>?_;refine aB λI a w U=>?_;obtain⟨I,U⟩:=U.fb 1 5;refine aG λI a w U=>?_;refine U.o (.c2 (z0 (bz l) (Ad _))) λU=>?_;refine aB λI a w U=>?_;refine U.cd (λah=>?_) λah=>?_
 .exfalso;simp at ah;skip
 refine wp_skip<|bj<|wp_seq ?_;obtain⟨hI,hT⟩:=r6 l;have jz:=wj l;have mq:=hI.aK;have nR:=Ae l;have C3:=mq.small.2.2.1.1;obtain⟨jT,lO,C4⟩:=Ap l;have C5:=jT.aK.aA;have C6:=jT.aK.small.2.2.1.1;refine bK λI a w U=>?_;refine U.o (.c1 (Aj (bz l) jz)) λU=>U.alloc rfl dM ei λb6 I a w U=>?_;refine aB λI a w U=>?_;obtain⟨I,U⟩:=U.fb 2 6;have U:=U.drop 0;refine aB λI a w U=>?_;refine St.lo (σ:=Nat) (2::(run 6 7 (run 72 28 []))) ⟨λs=>[(7,AV.int s)],λs=>[],λs=>s<=2⟩ (λs=>2-s) 0 U ?aJ ?bF;case aJ=>exact Nat.zero_le _
 rintro s I a w an U;have fQ:s<=2:=an;refine aF λI a w U=>?_;refine px (λar=>?_) λar=>?_
 .have GG:s<2:=by omega
  refine aB λI a w U=>?_;refine St.lo (σ:=Nat) (2::(run 5 8 (run 68 32 []))) ⟨λk=>[(8,AV.int k)],λk=>[],λk=>k<=3⟩ (λk=>3-k) 0 U ?eF ?jS;case eF=>exact Nat.zero_le _
  rintro k I a w an U;have oh:k<=3:=an;refine aF λI a w U=>?_;refine px (λaM=>?_) λaM=>?_
  .have C7:k<3:=by omega
   refine wp_skip<|bj<|wp_seq<|wp_block<|wp_seq ?_;have e0:(2*(s:Int)).toNat=2*s:=by omega
   have e1:(2*(s:Int)+1).toNat=2*s+1:=by omega
   obtain⟨hL,hC⟩:=akE l GG C7;have q0:=CK hI (i:=(2*(s:Int)).toNat) om;have q1:=CK hI (i:=(2*(s:Int)+1).toNat) om;have q2:=CK jT (i:=(2*(s:Int)).toNat) om;have q3:=CK jT (i:=(2*(s:Int)+1).toNat) om;have r2:=CJ jT (i:=(2*(s:Int)).toNat) om C7;have r3:=CJ jT (i:=(2*(s:Int)+1).toNat) om C7;unfold sv at r2 r3;refine bm λI a w U=>?_;refine U.o (lP .c .tt (λ_=>by omega)) λU=>?_;refine yI λI a w U=>?_;refine U.o (lP .c .tt (λ_=>by omega)) λU=>?_;refine Bp λI a w U=>?_;refine U.cd (λaP=>?_) λaP=>?_
   .exfalso;rw[e0,e1] at aP;simp only[B] at aP;unfold sv at hL;exact hL aP;skip
   refine bm λI a w U=>?_;refine U.o (lP .c .tt (λ_=>by omega)) λU=>?_;refine yI λI a w U=>?_;refine U.o (lP .c .tt (λ_=>by omega)) λU=>?_;refine Bo λI a w U=>?_;refine U.cd (λbx=>?_) λbx=>?_
   .exfalso;rw[e0,e1] at bx;simp only[B] at bx;unfold sv at hC;exact bx hC;skip
   refine aR λI a w U=>?_;exact U.ag (k+1) (by show k+1<=_;omega)
  refine zt ?_;refine aR λI a w U=>?_;exact U.ag (s+1) (by show s+1<=_;omega)
 refine zt ?_;refine bh ?_;rfl
end Go.Proofs.YtdanidpleofjgaaGreat
