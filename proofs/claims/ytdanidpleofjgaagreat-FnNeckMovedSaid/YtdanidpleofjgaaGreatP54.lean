/- Part 54: contracts of functions, plain facts. -/
import Derived.Test.YtdanidpleofjgaaGreatP50
set_option linter.all false
set_option maxRecDepth 100000
set_option maxHeartbeats 4000000
namespace Go.Proofs.YtdanidpleofjgaaGreat
open Go Go.RowKit
attribute [local irreducible] wpList Code.wp Ok
def aiq {w:aj} (h:Inv w) {i:Nat} (hi:i<4) {m:ax} (hm:bI m=true) (g:dX w m) (hk:m.kind=9):ik w i (fj (sv w i) m):=by
 have jK:=pQ hm;unfold fj;split
 .rename_i hc;simp only[Bool.and_eq_true,decide_eq_true_eq,beq_iff_eq] at hc;obtain⟨f1,f2⟩:=uF h hi hc.1;split
  .rename_i he;refine ik.same h hi λx hx=>?_;obtain rfl:x=_:=by simpa using hx
   exact Ub h hi he
  rename_i he;split
  .rename_i eH;rw[Bool.and_eq_true] at eH;obtain⟨_,k9⟩:=g.k9 hk;rw[f1,iv] at k9;have Ge:=k9.resolve_left he;have tr:=agG h hi hm (by unfold ep;omega) Ge (jI.1 eH.2);refine ik.settle h hi (tr.inv h hi om) (tr.ext h hi) λx hx y hy=>?_;obtain rfl:x=_:=by simpa using hx
   refine Ub h hi (Int.le_trans ?_ (hy.ep i hi _ om));unfold ep;rw[ot h.aK hi];have e:ab (iJ (sv w i) m).aw m.slot.toNat=⟨m.ba,1⟩:=by
    show ab ((sv w i).aw.set m.slot.toNat ⟨m.ba,1⟩) m.slot.toNat=_;rw[eO (by rw[(h.cQ hi).aw];omega),if_pos rfl]
   rw[e];exact Int.le_refl _
  exact ik.same h hi λx hx=>by simp at hx
 exact ik.same h hi λx hx=>by simp at hx
def air {w:aj} (h:Inv w) {i:Nat} (hi:i<4) {m:ax} (hm:bI m=true) (g:dX w m) (hk:m.kind=10):ik w i (g8 (sv w i) m,[]):=by
 have jK:=pQ hm;unfold g8;split
 .rename_i hc;simp only[Bool.and_eq_true,decide_eq_true_eq,beq_iff_eq] at hc;obtain⟨f1,f2⟩:=uF h hi hc.1.1;have nJ:=(g.nJ hk).2;rw[f1] at nJ;have tr:=agH h hi hm hc.1.2 hc.2 nJ;exact ik.settle h hi (tr.inv h hi om) (tr.ext h hi) λx hx=>by simp at hx
 exact ik.same h hi λx hx=>by simp at hx
def Un {w:aj} (h:Inv w) {i:Nat} (hi:i<4) {m:ax} (hm:m.to=(i:Int)) (g:dX w m):ik w i (cK (sv w i) m):=by
 unfold cK;split
 .rename_i hc;simp only[Bool.and_eq_true] at hc;obtain⟨⟨hu,hw⟩,_⟩:=hc;unfold cJ;split
  .exact ag7 h hi hw g ‹_› hm
  split
  .exact ik.same h hi (ag8 h hi hw g ‹_› hm)
  split
  .exact ag9 h hi hw g ‹_›
  split
  .exact agw h hi hw g ‹_›
  split
  .exact ik.same h hi (ahb h hi m)
  split
  .exact ahc h hi hw g ‹_› hu
  split
  .exact aiq h hi hw g ‹_›
  split
  .exact air h hi hw g ‹_›
  exact ik.same h hi λx hx=>by simp at hx
 exact ik.same h hi λx hx=>by simp at hx
def Inv.server {w:aj} (h:Inv w) (e:Ev) (ha:cr e.at_=true):Inv (eN w e).1:=by
 obtain⟨hi,_,_,hn⟩:=vy ha;have zY:=h.cQ hi;have jx:=h.site hi;unfold eN;dsimp only;split
 .exact(TZ h hi).inv h hi
 split
 .exact(T0 h hi).inv h hi
 split
 .exact h.send (Fl zY) (ahd h hi)
 split
 .rename_i hk;obtain⟨_,h0,h2,h1,h9⟩:=vq hk;have tr:=TY h hi hk;have h3:=tr.inv h hi om;have be:(ab (gV (sv w e.at_.toNat) e.slot).aw e.slot.toNat).bD=2:=by
   show(ab ((sv w e.at_.toNat).aw.set e.slot.toNat _) e.slot.toNat).bD=2;rw[eO (by rw[zY.aw];omega),if_pos rfl]
  refine h3.send (ws:=[fS (gV (sv w e.at_.toNat) e.slot) e.slot]) (λm hm=>?_) λm hm=>?_
  .obtain rfl:m=_:=by simpa using hm
   exact Fk (zL zY hk) h0 h2
  obtain rfl:m=_:=by simpa using hm
  exact Ud (s:=gV (sv w e.at_.toNat) e.slot) hi (ot h.aK hi _) jx h0 be
 exact h
def Inv.ao {w:aj} (h:Inv w) (e:Ev) (an:(gz w e).2=true):Inv (gz w e).1:=by
 have hg:=TO h.aK e an;unfold gz at*;split at an
 .rename_i hk;rw[if_pos hk] at hg⊢;unfold jJ at*;split at an
  .rename_i hc;rw[if_pos hc] at hg⊢;rw[Bool.and_eq_true] at hc;exact h.begin hc.1 hg
  cases an
 rename_i hk;rw[if_neg hk] at hg⊢;dsimp only at an hg⊢;split
 .exact h
 rename_i hn;rw[if_neg hn] at hg;obtain⟨h1,h2,h3⟩:=l5 (l:=w.calls) (ao:=e.ao) om;have he:=(nu h3).1;split
 .rename_i j8;rw[if_pos j8] at hg;exact h.K5 (p:={ab w.calls (bY w.calls e.ao).toNat with over:=true}) (l:=w.seen) h1 h3 ⟨⟨rfl,rfl,rfl,rfl,rfl,rfl⟩,(h.aC _ (bf h1)).of rfl rfl rfl rfl rfl rfl,λ_ e=>absurd he e,λe=>absurd he e⟩ (.inl ⟨he,rfl⟩) hg
 exact h.send (Kz (h.aK.call h1)) (agO h (bf h1))
def uH {w:aj} (h:Inv w) {l:List au} (hn:l.Pairwise λa b=>a≠b) (hv:∀d∈l,∃σ u,bn w σ u/\u.aU=d):l.length<=20:=by
 have hc:=(tc.1 h.aK.calls).1;refine Nat.le_trans (CB (P:=λd i=>∃σ u,bn w σ u/\u.aU=d/\(ab w.calls i).ao=u.ao/\(ab w.calls i).num=u.call) ?_ w.calls.length hn λd hd=>?_) hc
 .rintro x y i ⟨σ,u,u1,u2,u3,u4⟩ ⟨τ,v,v1,v2,v3,v4⟩;rw[<-u2,<-v2,h.once σ τ u v u1 v1 (u3.symm.trans v3) (u4.symm.trans v4)]
 obtain⟨σ,u,hu,e⟩:=hv d hd;obtain⟨q,hq,c1,c2,_⟩:=h.made σ u hu;obtain⟨i,hi,rfl⟩:=gm hq;exact⟨i,hi,σ,u,hu,e,c1,c2⟩
def LM {w:aj} (h:Inv w) {i:Nat} (hi:i<4):(sv w i).ai.length<=20:=by
 have:=uH h (KN (vZ (h.cQ hi).ai)) λd hd=>by
  obtain⟨v,hv,rfl⟩:=List.mem_map.1 hd;exact⟨_,v,.here hi hv,rfl⟩
 rwa[List.length_map] at this
def Uo {w:aj} (h:Inv w) {i:Nat} (hi:i<4):(sv w i).waits.length<=20:=by
 have:=uH h (KN (vZ (h.cQ hi).waits)) λd hd=>by
  obtain⟨v,hv,rfl⟩:=List.mem_map.1 hd;exact⟨_,v,h.mb i hi v hv,rfl⟩
 rwa[List.length_map] at this
def Up {w:aj} (h:Inv w) {i:Nat} (hi:i<4):(sv w i).aD.length<=20:=uH h (Cy (h.cQ hi).aD) λd hd=>by
 obtain⟨x,hx,e⟩:=(h.cQ hi).ly d hd;exact⟨_,x,.here hi hx,e⟩
def ais {w:aj} (h:Inv w) {i:Nat} (hi:i<4):(sv w i).aV.length<=20:=uH h (Cy (h.cQ hi).aV) λd hd=>by
 obtain⟨u,e,hu⟩:=h.aV i hi d hd;exact⟨_,u,hu,e⟩
def Uq {w:aj} (h:Inv w) (hg:BG w) {σ:Nat} {v:aE} (hv:bn w σ v):v.aq.time<=20:=by
 have key:∀(n:Nat) {σ:Nat} {v:aE},bn w σ v->v.aq.time=n->∃l:List au,l.length=n/\(∀d∈l,d.aq.time<=n)/\l.Pairwise (λa b=>a≠b)/\∀d∈l,∃σ u,bn w σ u/\u.aU=d:=by
  intro n;induction n with
  |zero=>exactλ{σ v} _ _=>⟨[],rfl,by simp,by simp,by simp⟩
  |succ n ih=>
   intro σ v hv ht
   have rest:∃l:List au,l.length=n/\(∀d∈l,d.aq.time<=n)/\l.Pairwise (λa b=>a≠b)/\∀d∈l,∃σ u,bn w σ u/\u.aU=d:=by
    rcases hg σ v hv with h1|⟨τ,u,hu,h1⟩
    .exact⟨[],by show 0=n;omega,by simp,by simp,by simp⟩
    exact ih hu om
   obtain⟨l,l1,l2,l3,l4⟩:=rest
   refine⟨v.aU::l,by simp[l1],λd hd=>?_,List.pairwise_cons.2 ⟨λd hd e=>?_,l3⟩,λd hd=>?_⟩
   .rcases List.mem_cons.1 hd with rfl|hd
    .show v.aq.time<=_;omega
    have:=l2 d hd;omega
   .have:=l2 d hd
    rw[<-e] at this
    have e2:v.aU.aq.time=v.aq.time:=rfl
    omega
   rcases List.mem_cons.1 hd with rfl|hd
   .exact⟨σ,v,hv,rfl⟩
   exact l4 d hd
 have h0:1<=v.aq.time:=by
  have:=h.FZ hv;simp only[dL,Bool.and_eq_true] at this;exact rl this.1.1.1.1.1.2
 obtain⟨l,l1,_,l3,l4⟩:=key v.aq.time.toNat hv om;have:=uH h l3 l4;omega
def ev (kind at_ ao:Int):Ev:=⟨kind,at_,ao,0,0,0,0,0,0,0,0⟩
def dQ (w:aj):aj:=ct w (ev 4 0 0)
def lE (w:aj):aj:=(List.range 4).foldl (λ(w:aj) (i:Nat)=>ct w (ev 7 i 0)) w
def ait (w:aj):(lE w).time<=w.time+4:=by
 have:=Em (f:=λ(w:aj) (i:Nat)=>ct w (ev 7 i 0)) (n:=1) (λx i=>nK x _) (List.range 4) w;rw[List.length_range] at this;unfold lE;omega
def aiu {w:aj} (h:Inv w) {i:Nat} (hi:i<4):(gy (sv w i)).length<=60:=by
 obtain⟨a,b,_⟩:=TE (sv w i);have U:=h.cQ hi;have hoa:(sv w i).aD.length+(uc (sv w i)).length<=20:=by
  rw[<-List.length_append];refine uH h ?_ λd hd=>?_
  .rw[List.pairwise_append];refine⟨Cy U.aD,a,λx hx y hy e=>?_⟩;obtain⟨v,hv,e2⟩:=U.ly x hx;have:=(b y hy).1;rw[<-e,<-e2] at this;unfold ew at this;rw[Bool.or_eq_false_iff,decide_eq_false_iff_not] at this;exact this.1 (oW.2 ⟨v,hv,rfl⟩)
  rcases List.mem_append.1 hd with hd|hd
  .obtain⟨x,hx,e⟩:=U.ly d hd;exact⟨_,x,.here hi hx,e⟩
  obtain⟨_,v,hv,uk⟩:=b d hd;obtain⟨u,e,hu⟩:=FT h (h.mb i hi v hv) uk;exact⟨_,u,hu,e⟩
 have hl:=Zm (sv w i);rw[U.aw] at hl;have hr:=IG (af2 (sv w i)) (sv w i).aD;unfold gy;split
 .simp only[List.length_append,List.length_map];omega
 simp
def Ur {w:aj} (h:Inv w) {l:List aE} (hl:cg l=true) (hv:∀v∈l,∃τ,bn w τ v):l.length<=20:=by
 have:=uH h (KN (vZ hl)) λd hd=>by
  obtain⟨v,kR,rfl⟩:=List.mem_map.1 hd;obtain⟨τ,ht⟩:=hv v kR;exact⟨τ,v,ht,rfl⟩
 rwa[List.length_map] at this
def aiv {x:aj} (h:Calm x) {j:Nat} (hj:j<4) {m:ax} (hm:bI m=true) (g:dX x m) (hk:m.kind=9) (ey:m.to=(j:Int)) (hf:m.aO=((bL j:Nat):Int)) (he:1<=m.ba):(cK (sv x j) m).2=[mV (sv x j) m]:=by
 rw[o8 h hj hm ey];have jx:=h.inv.site hj;unfold cJ;rw[if_neg om,if_neg om,if_neg om,if_neg om,if_neg om,if_neg om,if_pos hk];unfold fj;have BX:m.aO=eX (sv x j).site:=by rw[jx,x3,hf]
 rw[if_pos (by rw[BX];simp[he])];split
 .rfl
 rename_i aX;obtain⟨f1,_⟩:=uF h.inv hj BX;obtain⟨_,k9⟩:=g.k9 hk;rw[f1,iv] at k9;have Ge:=k9.resolve_left aX;obtain⟨_,f2,f3,f4⟩:=id Ge;have hl:=mW hm;have ht:=gX hj;have b1:=Ur h.inv hl.1 λv hv=>⟨_,.here ht ((f2 v).1 hv).1⟩;have b2:=Ur h.inv hl.2.1 λv hv=>⟨_,h.inv.mb _ ht v ((f3 v).1 hv).1⟩;have b3:m.aD.length<=20:=uH h.inv (Cy hl.2.2.1) λd hd=>by
  obtain⟨u,hu,e⟩:=(h.inv.cQ ht).ly d ((f4 d).1 hd).1;exact⟨_,u,.here ht hu,e⟩
 have c1:(dW (sv x j) m.slot).ai.length<=(sv x j).ai.length:=List.length_filter_le _ _;have c2:(dW (sv x j) m.slot).waits.length<=(sv x j).waits.length:=List.length_filter_le _ _;have c3:(dW (sv x j) m.slot).aD.length<=(sv x j).aD.length:=List.length_filter_le _ _;have d1:=LM h.inv hj;have d2:=Uo h.inv hj;have d3:=Up h.inv hj;have hb:oT (sv x j) m=true:=by
  unfold oT;simp only[Bool.and_eq_true,decide_eq_true_eq];omega
 rw[if_pos (by rw[hb,jI.2 (agR h.inv hj hm he Ge hb)];rfl)]
def Us {x:aj} (h:bR x) {n:Nat} (hn:n<x.calls.length) (hw:cD (ab x.calls n)=true):bY x.calls (ab x.calls n).ao=(n:Int):=by
 have hb:ri (ab x.calls n).ao (ab x.calls n)=true:=by
  obtain⟨h1,h2⟩:=nu hw;unfold ri;rw[h1,h2];simp
 have h0:0<=bY x.calls (ab x.calls n).ao:=TA (p:=ri (ab x.calls n).ao) hn hb;obtain⟨a1,a2,a3⟩:=l5 h0;rcases Nat.lt_trichotomy (bY x.calls (ab x.calls n).ao).toNat n with bw|he|yG
 .exact absurd a2.symm (Cx h a3 bw hn)
 .omega
 exact absurd a2 (Cx h hw yG a1)
def LN {x:aj} (h:Inv x) {n:Nat} (hn:n<x.calls.length) (hw:cD (ab x.calls n)=true) {m:ax} (hm:bI m=true) (ey:m.to=10+(ab x.calls n).ao) (hc:m.call=(ab x.calls n).num) (hk:ib (ab x.calls n).keys m.key=true):
 cP (ab x.calls n) m (x.time+1)=if(ab x.calls n).kind=1 then(if m.kind=2/\di m.aq=true then{ab x.calls n with aq:=m.aq,end_:=x.time+1} else ab x.calls n) else ig (ab x.calls n) m (x.time+1):=by
 unfold cP;rw[if_pos];have:=begun h hn;rw[hm,ey,hc,hk,hw];simpa using this
def LO (w:aj) {i:Nat} (hi:i<4):ct w (ev 7 (i:Int) 0)=if(sv w i).up then w else{w with time:=w.time+1,aA:=w.aA.set i (jF (sv w i))}:=by
 have e1:cr (i:Int)=true:=iF.2 om;have e2:(ev 7 (i:Int) 0).at_.toNat=i:=by show((i:Int)).toNat=i;omega
 have hk:(ev 7 (i:Int) 0).kind=7:=rfl;have hd:bX w (ev 7 (i:Int) 0)=({w with time:=w.time+1,aA:=w.aA.set i (jF (sv w i))},!(sv w i).up):=by
  unfold bX;dsimp only;rw[if_neg om,if_neg om,if_pos (show(aH (ev 7 (i:Int) 0).kind 6 9&&cr (ev 7 (i:Int) 0).at_)=true by
   show(aH 7 6 9&&cr (i:Int))=true;rw[e1];decide)]
  unfold eN;dsimp only;rw[if_pos hk,e2];rfl
 unfold ct;rw[hd];dsimp only;cases(sv w i).up<;>rfl
def Gf {w:aj} (h:Inv w) {i:Nat} (hi:i<4):(sv (ct w (ev 7 (i:Int) 0)) i).up=true/\∀j,(sv w j).up=true->(sv (ct w (ev 7 (i:Int) 0)) j).up=true:=by
 rw[LO w hi];split
 .exact⟨‹_›,λ_ h=>h⟩
 have e:∀j,sv {w with time:=w.time+1,aA:=w.aA.set i (jF (sv w i))} j=if j=i then jF (sv w i) else sv w j:=λj=>eO (by rw[h.aK.aA];exact hi)
 refine⟨by rw[e,if_pos rfl];rfl,λj hj=>?_⟩;rw[e];split
 .rfl
 exact hj
def Ab (w:aj):lE w=ct (ct (ct (ct w (ev 7 ((0:Nat):Int) 0)) (ev 7 ((1:Nat):Int) 0)) (ev 7 ((2:Nat):Int) 0)) (ev 7 ((3:Nat):Int) 0):=by
 unfold lE;rw[show List.range 4=[0,1,2,3] from rfl];simp only[List.foldl_cons,List.foldl_nil]
def Ut {w:aj} (h:Calm w):lE w=w:=by
 rw[Ab];have e:∀i,i<4->ct w (ev 7 ((i:Nat):Int) 0)=w:=λi hi=>by rw[LO w hi,if_pos (h.up i hi)]
 rw[e 0 aN,e 1 aN,e 2 aN,e 3 aN]
def aiw (w:aj) (i:Nat):(ct w (ev 8 (i:Int) 0)).calls=w.calls:=by
 unfold ct;split
 .have hk:(ev 8 (i:Int) 0).kind=8:=rfl;unfold bX;dsimp only;rw[if_neg om,if_neg om];split
  .unfold eN;dsimp only;repeat' split
   all_goals rfl
  rfl
 rfl
def Gg (w:aj) {i:Nat} (hi:i<4):(ct w (ev 7 (i:Int) 0)).calls=w.calls:=by
 rw[LO w hi];split<;>rfl
def aix (w:aj) (c:Int):(ct w (ev 2 0 c)).calls=w.calls:=by
 unfold ct;split
 .have hk:(ev 2 0 c).kind=2:=rfl;unfold bX;dsimp only;rw[if_pos om];unfold gz;dsimp only;rw[if_neg om];split
  .rfl
  rw[if_neg om]
 rfl
def aiy (w:aj):km w (lE w):=by
 rw[Ab];exact(km.of (Gg w aN)).trans ((km.of (Gg _ aN)).trans ((km.of (Gg _ aN)).trans (km.of (Gg _ aN))))
def uI (q:Call) (v:aE):Bool:=(v.ao==q.ao)&&(v.call==q.num)
def jy (q:Call) (l:List aE):Nat:=(l.filter (uI q)).length
def aiz {q:Call} {l:List aE} {v:aE} (h:v∈l) (h1:v.ao=q.ao) (h2:v.call=q.num):0<jy q l:=by
 unfold jy;exact List.length_pos_of_mem (List.mem_filter.2 ⟨h,by unfold uI;rw[h1,h2];simp⟩)
def tk (w:aj) (q:Call):Nat->Nat
 |0=>0
 |s+1=>tk w q s+jy q (cN w (s:Int))
def aiA (q:Call) (l:List aE) (n:Nat):((n:Nat):Int)=((n+jy q (l.take 0):Nat):Int):=by simp[jy]
def Uu {q:Call} {l:List aE} {k n:Nat} (h:k<l.length) (hq:uI q (ab l k)=true):((n+jy q (l.take k):Nat):Int)+1=((n+jy q (l.take (k+1)):Nat):Int):=by
 unfold jy;rw[eT h,List.filter_append];simp[hq];omega
def Uv {q:Call} {l:List aE} {k n:Nat} (h:k<l.length) (hq:uI q (ab l k)=false):((n+jy q (l.take k):Nat):Int)=((n+jy q (l.take (k+1)):Nat):Int):=by
 unfold jy;rw[eT h,List.filter_append];simp[hq]
def Uw (q:Call) (l:List aE):jy q l<=l.length:=List.length_filter_le _ _
def Ux {x:aj} (an:ez x=true) (q:Call):∀{s:Nat},s<=2->tk x q s<=160*s
 |0,_=>Nat.le_refl _
 |s+1,U=>by
  have h1:=Ux an q (s:=s) om;have h2:=Ue an (s:=(s:Int)) om;have h3:=Uw q (cN x (s:Int));show tk x q s+jy q (cN x (s:Int))<=_;omega
end Go.Proofs.YtdanidpleofjgaaGreat
set_option linter.all false
set_option maxRecDepth 100000
set_option maxHeartbeats 4000000
namespace Go.Proofs.YtdanidpleofjgaaGreat
open Go Go.RowKit Tryz
attribute [local irreducible] wpList Code.wp Ok
def ail {w:aj} (h:Inv w) {q:Call} (hq:q∈w.calls) (hw0:cD q=true) {m:ax} (g:dX w m):FV w q (cP q m w.time):=by
 have yb:=h.aC q hq;have v8:dH q w.time:=by obtain⟨i,hi,rfl⟩:=gm hq;exact h.aK.call hi
 have p6:=(nu hw0).1;have hp:dH (cP q m w.time) w.time:=zR v8;have U:=FL q m w.time;have bq:=h.ctx q hq;have Um:FV w q q:=⟨jR.refl q,yb,λ_ e=>absurd p6 e,λe=>absurd p6 e⟩;have read:∀p,m9 w p->dH p w.time->jR q p->p.kind≠1->FV w q p:=λp gp cp s hk=>by
  refine⟨s,gp,λe=>absurd e hk,λe=>?_⟩;unfold gO;rw[if_neg e,if_neg hk];obtain⟨s1,_,_,_,_,s6⟩:=s;exact Le h (by rw[s1,s6];exact bq) cp.ctx cp.aK gp.dY
 unfold cP at hp U⊢;split
 .rename_i hc;rw[if_pos hc] at hp U;simp only[Bool.and_eq_true,decide_eq_true_eq,beq_iff_eq] at hc;obtain⟨⟨⟨⟨⟨hm,ey⟩,Ct⟩,gj⟩,hw⟩,hb⟩:=hc;split
  .rename_i hk;rw[if_pos hk] at hp U;split
   .rename_i gi;rw[if_pos gi] at hp U;obtain⟨v,v1,v2,v3,v4,v5⟩:=g.k2 gi.1;have ain:m.to-10=q.ao:=by omega
    rw[ain] at v1 v2;have Jy:m.key=ab q.keys 0:=by
     have h1:q.keys.length=1:=by have:=v8.keys;simp[iu,hk] at this;omega
     obtain⟨x,hx⟩:=List.length_eq_one_iff.1 h1;have:=od.1 gj;rw[hx] at this⊢;simpa[ab] using this
    obtain⟨p,LJ,c1,c2,c3,c4,c5,c6⟩:=h.made _ v v1;have x4:p=q:=Cw h.aK LJ hq (by rw[c1,v2]) (by rw[c2,v3,Ct]);subst x4;have ht:w.time≠0:=by have:=v8.bH;omega
    refine⟨U,yb.of rfl rfl rfl rfl rfl rfl,λ_ _=>⟨v,v1,v2,by rw[v3,Ct],by rw[v4,Jy],v5⟩,λ_=>?_⟩;have e:gO {p with aq:=m.aq,end_:=w.time}=gq p.ctx v.aU:=by
     unfold gO;have e1:({p with aq:=m.aq,end_:=w.time}:Call).end_=w.time:=rfl;rw[if_neg (by rw[e1];exact ht),if_pos hk];show gq p.ctx ⟨ab p.keys 0,m.aq⟩=_;rw[<-Jy,<-v4,<-v5];rfl
    rw[e];exact Ts bq v8.ctx v1 (by rw[v5];exact gi.2) (by rw[<-c6];exactλkey=>yX _)
   exact Um
  rename_i hk;rw[if_neg hk] at hp U;have Bc:∀p,jR q p->p.kind≠1:=λp s e=>hk (by rw[<-s.2.2.1];exact e);refine(?_:m9 w (ig q m w.time)->_) ?_
  .exactλhg=>read _ hg hp U (Bc _ U)
  unfold ig;split
  .rename_i hr;obtain⟨p,LJ,k1,k2,k3,k4⟩:=g.k4 hr.1;have x4:p=q:=Cw h.aK LJ hq om (by rw[k2,Ct]);subst x4;have rT:=ET (q:=p) hm hr.2;have LK:m.yes=true->∃v,(dh m).bl=v/\v.key=m.key/\bn w p.ao.toNat v/\(dS m.aq=true->bV v.aq (bN p.ctx m.key)=false):=λhy=>by
    obtain⟨v,b1,b2,b3,b4,_⟩:=k3 hy;exact⟨v,by unfold dh;simp only[hy,if_true];rw[b1];rfl,b2,b3,b4⟩
   split
   .rename_i hn;split
    .rename_i vU;refine agM h v8 yb hw rT gj hn (λhy=>?_) ?_
     .obtain⟨v,e,_,b,_⟩:=LK hy;rw[e];exact b
     cases hy:m.yes
     .have e:(dh m).bl=sI:=by unfold dh;simp[hy]
      rw[e];show bV sI.aq (bN p.ctx m.key)=false;rw[(k4 hy).2];rfl
     obtain⟨v,e,_,_,b⟩:=LK hy;rw[e];exact b vU
    exact yb
   split
   .rename_i hy;obtain⟨v,e,_,b,_⟩:=LK hy;exact agx h v8 yb hk rT hy (by rw[e];exact b)
   exact yb
  exact yb
 exact Um
def Inv.answer {w:aj} (h:Inv w) {m:ax} (g:dX w m):Inv (iL w m):=by
 have hg:=TM h.aK m;unfold iL at hg⊢;dsimp only at hg⊢;split
 .exact h
 rename_i hn;rw[if_neg hn] at hg;obtain⟨h1,h2,h3⟩:=l5 (l:=w.calls) (ao:=m.to-10) om;have hc:=ail h (bf h1) h3 g;have mK:∀p:Call,dH p w.time->¬0<p.end_->p.end_=0:=λp hp hn=>by
  apply Classical.byContradiction;intro e;have:=(hp.ended e).2.1;have:=hp.bH;omega
 split
 .rename_i he;rw[if_pos he] at hg;have e1:(m.to-10).toNat=(cP (ab w.calls (bY w.calls (m.to-10)).toNat) m w.time).ao.toNat:=by rw[hc.same.1,h2]
  rw[e1] at hg⊢;exact h.K5 h1 h3 hc (.inr ⟨by omega,rfl⟩) hg
 rename_i he;rw[if_neg he] at hg;exact h.K5 h1 h3 hc (.inl ⟨mK _ (zR (h.aK.call h1)) he,rfl⟩) hg
def rZ (x:aj) (s:Int) (an:ez x=true) (wS:0<=s/\s<=1):
 Fn prog 27 [x.av,AV.int s] (cn (cN x s)):=by
 refine Fn.go 16 func27 ntmps27 (λW I a U=>?_);have hg:=(iy.1 an).1;have mY:=hg.small.2.2.1.1;have dq:aH s 0 1=true:=by simp[aH];omega
 refine bm λI a w U=>?_;refine U.o (.c1 (F0 x hg.Fit mY)) λU=>?_;refine bm λI a w U=>?_;refine U.q .F (.cl (jq ..)) λU=>?_;refine aF λI a w U=>?_;refine U.cd (λae=>?_) λae=>?_
 .exfalso;rw[an,dq] at ae;simp at ae;skip
 refine aG λI a w U=>?_;refine U.o (.c2 (Lb x s an wS)) λU=>?_;refine bh ?_;rfl
def LL {x:aj} (h:Calm x) (hr:Rest x) {j:Nat} (hj:j<4) {m:ax} (hm:bI m=true) (g:dX x m):(cJ (sv x j) m).1.aw=(sv x j).aw/\(m.kind=9\/m.kind=10->(cJ (sv x j) m).1=sv x j):=by
 have h3:=BF hm;unfold cJ;split
 .refine⟨?_,λe=>by omega⟩;unfold fT;split
  .split
   .rfl
   split
   .exact lz _
   rfl
  rfl
 split
 .exact⟨rfl,λ_=>rfl⟩
 split
 .refine⟨?_,λe=>by omega⟩;unfold fL;split
  .dsimp only;split
   .split
    .exact lz _
    rfl
   exact lz _
  rfl
 split
 .refine⟨?_,λe=>by omega⟩;show(iS _ _).aw=_;unfold iS;split<;>rfl
 split
 .exact⟨rfl,λ_=>rfl⟩
 split
 .refine⟨?_,λe=>by omega⟩;show(fK _ _).aw=_;unfold fK;split
  .exact lz _
  rfl
 split
 .rename_i hk;have e:(fj (sv x j) m).1=sv x j:=by
   unfold fj;split
   .rename_i hc;split
    .rfl
    rename_i aX;exfalso;rw[Bool.and_eq_true,beq_iff_eq] at hc;obtain⟨f1,_⟩:=uF h.inv hj hc.1;obtain⟨_,k9⟩:=g.k9 hk;rw[f1,iv] at k9;have:=(k9.resolve_left aX).1;exact hr _ (gX hj) _ h3 (by rw[this])
   rfl
  exact⟨by rw[e],λ_=>e⟩
 split
 .have e:g8 (sv x j) m=sv x j:=by
   unfold g8;rw[if_neg];intro hc;simp only[Bool.and_eq_true,beq_iff_eq] at hc;exact hr j hj _ h3 hc.1.2
  exact⟨by show(g8 _ _).aw=_;rw[e],λ_=>e⟩
 exact⟨rfl,λ_=>rfl⟩
def aio {x:aj} (h:Calm x) (hr:Rest x) {j:Nat} (hj:j<4) {m:ax} (hm:bI m=true) (g:dX x m) (hk:m.kind≠1):∀d∈(cJ (sv x j) m).1.aD,d∈(sv x j).aD:=by
 have h9:=(LL h hr hj hm g).2;have so:∀{s:Server},(dB s).aD=s.aD:=λ{s}=>(ud s).2.2.2;by_cases hb:m.kind=9\/m.kind=10
 .rw[h9 hb];exactλd hd=>hd
 unfold cJ;rw[if_neg hk];split
 .exactλd hd=>hd
 split
 .unfold fL;split
  .dsimp only;split
   .split
    .rw[so];exactλd hd=>hd
    exactλd hd=>hd
   rw[so];exactλd hd=>hd
  exactλd hd=>hd
 split
 .show∀d∈(iS _ _).aD,_;unfold iS;split
  .exactλd hd=>vF hd
  exactλd hd=>hd
 split
 .exactλd hd=>hd
 split
 .show∀d∈(fK _ _).aD,_;unfold fK;split
  .rw[so];exactλd hd=>hd
  exactλd hd=>hd
 split
 .exact absurd (.inl ‹_›) hb
 split
 .exact absurd (.inr ‹_›) hb
 exactλd hd=>hd
def aip {x:aj} (h:Calm x) (hr:Rest x) {j:Nat} (hj:j<4) {m:ax} (hm:bI m=true) (g:dX x m) (hk:7<=m.kind):(∀v∈(sv x j).ai,v∈(cJ (sv x j) m).1.ai)/\(∀v∈(cJ (sv x j) m).1.waits,v∈(sv x j).waits)/\
 ∀v d,v∈(cJ (sv x j) m).1.waits->d∈v.aQ->ew (sv x j) d=true->ew (cJ (sv x j) m).1 d=true:=by
 have h9:=(LL h hr hj hm g).2;have same:∀{s:Server},s=sv x j->(∀v∈(sv x j).ai,v∈s.ai)/\(∀v∈s.waits,v∈(sv x j).waits)/\∀v d,v∈s.waits->d∈v.aQ->ew (sv x j) d=true->ew s d=true:=λe=>by
  rw[e];exact⟨λv hv=>hv,λv hv=>hv,λ_ _ _ _ U=>U⟩
 by_cases hb:m.kind=9\/m.kind=10
 .exact same (h9 hb)
 unfold cJ;rw[if_neg om,if_neg om,if_neg om,if_neg om];split
 .exact same rfl
 split
 .show(∀v∈(sv x j).ai,v∈(fK (sv x j) m).ai)/\(∀v∈(fK (sv x j) m).waits,v∈(sv x j).waits)/\∀v d,v∈(fK (sv x j) m).waits->d∈v.aQ->ew (sv x j) d=true->ew (fK (sv x j) m) d=true;unfold fK;split
  .refine⟨λv hv=>TK (s:={sv x j with aV:=dP (sv x j).aV ⟨m.key,m.aq⟩}) hv,λv hv=>(FN (s:={sv x j with aV:=dP (sv x j).aV ⟨m.key,m.aq⟩})).2 v hv,λv d hv hd U=>T5 (s:={sv x j with aV:=dP (sv x j).aV ⟨m.key,m.aq⟩}) ?_ hv hd⟩;rcases TF U with h1|h1
   .exact KR (s:={sv x j with aV:=dP (sv x j).aV ⟨m.key,m.aq⟩}) h1
   exact KS (s:={sv x j with aV:=dP (sv x j).aV ⟨m.key,m.aq⟩}) (vL.2 (.inr h1))
  exact same rfl
 split
 .exact absurd (.inl ‹_›) hb
 split
 .exact absurd (.inr ‹_›) hb
 exact same rfl
def mc.trans {w x y:aj} {a b:Nat} (h:mc w x a) (h':mc x y b):mc w y (a+b):=⟨h'.inv,h'.more,λσ v hv=>h'.dY σ v (h.dY σ v hv),by have:=h.time;have:=h'.time;omega⟩
end Go.Proofs.YtdanidpleofjgaaGreat
