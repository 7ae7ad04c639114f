/- Part 42: contracts of functions, plain facts. -/
import Derived.Test.YtldbakcpcfdlaaaGreatP37
import Derived.Test.YtldbakcpcfdlaaaGreatP38
set_option linter.all false
set_option maxRecDepth 100000
set_option maxHeartbeats 4000000
namespace Go.Proofs.YtldbakcpcfdlaaaGreat
open Go Go.RowKit
attribute [local irreducible] wpList Code.wp Ok
def amA (w:ai):kJ w (iJ w):=by
 rw[HF];exact(kJ.of (HI w aP)).trans ((kJ.of (HI _ aP)).trans ((kJ.of (HI _ aP)).trans (kJ.of (HI _ aP))))
def amB {w:ai} (h:bX w) (x:Int):sB w.calls x=fM w.calls w.calls.length x:=by
 have key:∀k,k<=w.calls.length->(w.calls.take k).foldl (λn q=>if q.aj=x then q.num else n) 0=fM w.calls k x:=by
  intro k;induction k with
  |zero=>intro _;rw[Gc];rfl
  |succ k ih=>
   intro hk
   rw[fe om,List.foldl_append,ih om,pR om]
   show(if(ab w.calls k).aj=x then(ab w.calls k).num else fM w.calls k x)=_
   split
   .rename_i e
    rw[((pb.1 h.calls).2 k om).2.2.1,e,pR om,if_pos e]
   rfl
 have:=key w.calls.length (Nat.le_refl _);rw[List.take_length] at this;exact this
def amC {w:ai} (h:bX w) (he:kD w) (hl:w.calls.length<=19) {e:Ev} (hc:eF e.aj=true) (hk:fU (ey {w with time:=w.time+1} e)=true) (hv:0<=e.val/\e.val<=9999):jr (w.calls++[ey {w with time:=w.time+1} e]) (w.time+1)=true:=by
 have h0:=h.time;have bq:=qS.1 hc;have hn:(ey {w with time:=w.time+1} e).num=fM w.calls w.calls.length e.aj+1:=by
  show sB w.calls e.aj+1=_;rw[amB h]
 have P5:=Dc w.calls w.calls.length e.aj;have uG:dJ (ey {w with time:=w.time+1} e) (w.time+1):=by
  refine⟨hc,by omega,hk,?_,?_,rfl,⟨by show 1<=w.time+1;omega,Int.le_refl _⟩,rfl,λa ha=>by simp[ey,oM] at ha,List.Pairwise.nil,λa ha=>by simp[ey,oM] at ha,λd hd=>by simp[ey,oM] at hd,.inl rfl,λ_=>⟨rfl,rfl⟩,λeR=>⟨?_,rfl⟩,λ_=>rfl,λe2=>absurd rfl e2⟩
  .show 0<=(if e.call=1 then e.val else 0)/\(if e.call=1 then e.val else 0)<=9999;split<;>omega
  .exact h.kG _ (bh (l:=w.seen) (k:=e.aj.toNat) (by rw[h.seen];omega))
  show(if e.call=1 then e.val else 0)=0;exact if_neg eR
 refine pb.2 ⟨by simp;omega,λi hi=>?_⟩;rw[List.length_append,List.length_singleton] at hi;have X2:∀k,k<=w.calls.length->∀x,fM (w.calls++[ey {w with time:=w.time+1} e]) k x=fM w.calls k x:=λk hk x=>by
  unfold fM;rw[List.take_append_of_le_length hk]
 rcases Nat.lt_or_ge i w.calls.length with bz|lY
 .obtain⟨a1,a2,a3,a4⟩:=(pb.1 h.calls).2 i bz;rw[sL bz];refine⟨a1.later om,?_,by rw[X2 _ om];exact a3,λj hj=>by rw[sL om];exact a4 j hj⟩;rcases a2 with h1|h1
  .exact .inl h1
  rw[sL om];exact .inr h1
 have ei:i=w.calls.length:=by omega
 subst ei;rw[AM];refine⟨uG,?_,?_,λj hj=>?_⟩
 .rcases Nat.eq_zero_or_pos w.calls.length with h1|h1
  .exact .inl h1
  right;rw[sL om];have:=(h.call (i:=w.calls.length-1) om).bH;show _<w.time+1;omega
 .rw[hn,pR bn,AM,if_pos rfl,X2 _ (Nat.le_refl _)];rfl
 rw[sL hj];have hw:=he j hj;have hg:=h.call hj;unfold mH;cases ho:(ab w.calls j).over with
 |true=>simp
 |false=>
  have aW:(ab w.calls j).end_≠0:=λe2=>by
   unfold bV at hw;rw[e2,ho] at hw;simp at hw
  have:=(hg.ended aW).2.1.2
  have e3:(ey {w with time:=w.time+1} e).bH=w.time+1:=rfl
  rw[e3]
  have h1:((ab w.calls j).end_==0)=false:=by simpa using aW
  have h2:decide (w.time+1<=(ab w.calls j).end_)=false:=by simp;omega
  rw[h1,h2]
  simp
def Ou {w:ai} (h:bX w) (ht:w.time<=99998) (he:kD w) (hl:w.calls.length<=19) {e:Ev} (h1:e.kind=1) (hc:eF e.aj=true) (hk:fU (ey {w with time:=w.time+1} e)=true) (hv:0<=e.val/\e.val<=9999):
 bW w e=({w with time:=w.time+1,calls:=w.calls++[ey {w with time:=w.time+1} e]},true)/\(bW w e).1=bR w e:=by
 have hn:cq w.calls e.aj<0:=by
  rcases Int.lt_or_le (cq w.calls e.aj) 0 with bz|hle
  .exact bz
  obtain⟨a1,a2,a3⟩:=na hle;rw[he _ a1] at a3;cases a3
 have hd:cD w e=({w with time:=w.time+1,calls:=w.calls++[ey {w with time:=w.time+1} e]},true):=by
  unfold cD;dsimp only;rw[if_pos (.inl h1)];unfold g7;rw[if_pos h1];unfold kb;dsimp only;rw[hc,decide_eq_true hn,Bool.true_and,if_pos rfl,amC h he hl hc hk hv]
 have e1:=Hv (fD.2 ⟨h,by omega⟩) e;unfold gv at e1;rw[hd,if_pos ⟨by omega,rfl⟩] at e1;refine⟨e1,?_⟩;rw[e1];unfold bR;rw[hd,if_pos rfl]
def amD {x:ai} (h:Inv x) {i:Nat} (hi:i<4) {m:az} (hm:bK m=true) {v u:aA} (hN:DS (sv x i) m v) (hu:be x (i/2) u) (hk:u.key=v.key):bQ v.ar u.ar=false:=by
 have Ov:v.key=m.key:=by rw[hN.eq];rfl
 have bj:cP (sv x i) m.key=1:=by
  have:=hN.owns;unfold fE at this;simp only[Bool.and_eq_true,beq_iff_eq] at this;exact this.2
 have dr:=h.owner hi hu (by rw[hk,Ov];exact bj);obtain⟨t,t1,t2⟩:=Xi (pU (h.cT hi).an) dr (hk.trans Ov);have hle:=GM (pU (h.cT hi).an) t1 dr (hk.trans Ov);have px:t.ar∈fB (sv x i) m:=by
  unfold fB;rw[t1];simp
 have:=(DP (h.cT hi) hm hN.ok).2.2 _ px;rw[<-hN.eq] at this;unfold bQ at*;simp only[Bool.or_eq_true,Bool.or_eq_false_iff,Bool.and_eq_true,Bool.and_eq_false_iff,decide_eq_true_eq,decide_eq_false_iff_not,beq_iff_eq,beq_eq_false_iff_ne,ne_eq] at*;omega
def jE.pop {V:aA->Prop} {n:Nat} {x:ai} (h:jE V n x) {m:az} {r:List az} (hx:x.al=m::r):jE V n (cU x):=by
 have hI:=h.calm.inv;have dr:m∈x.al:=by rw[hx];simp
 have X3:∀y∈(cU x).al,y∈x.al\/y.kind=m.kind+1:=by
  obtain⟨l,l1,_,l3⟩:=Bz hI.aN.al hx;intro y hy;rw[l1] at hy;rcases List.mem_append.1 hy with hy|hy
  .exact .inl (by rw[hx];simp[hy])
  cases hc:aJ m.to 10 11 with
  |false=>
   rw[l3 hc] at hy
   exact .inr (MO _ _ y hy)
  |true=>
   exfalso
   have e:(cU x).al=r:=by rw[xI hx,if_pos hc,Hx]
   rw[e] at l1
   have:=congrArg List.length l1
   rw[List.length_append] at this
   have:l=[]:=List.eq_nil_of_length_eq_zero om
   subst this
   simp at hy
 have Eg:(∀k,k<x.calls.length->k≠n->ab (cU x).calls k=ab x.calls k)/\(cU x).calls.length=x.calls.length/\(ab (cU x).calls n=ab x.calls n\/ab (cU x).calls n=cQ (ab x.calls n) m (x.time+1)):=by
  rcases xJ hx with e|⟨k,hk,hw,e⟩
  .rw[e];exact⟨λ_ _ _=>rfl,rfl,.inl rfl⟩
  have ek:k=n:=by
   by_cases ek:k=n
   .exact ek
   have:=h.others k hk ek;rw[hw] at this;cases this
  subst ek;rw[e];exact⟨λj hj aW=>by rw[fC hk,if_neg aW],by simp,.inr (by rw[fC hk,if_pos rfl])⟩
 obtain⟨c1,c2,c3⟩:=Eg;have lg:=Hc (ab x.calls n) m (x.time+1);have bq:(ab (cU x).calls n).aj=(ab x.calls n).aj/\(ab (cU x).calls n).num=(ab x.calls n).num:=by
  rcases c3 with e|e
  .rw[e];exact⟨rfl,rfl⟩
  rw[e];exact⟨lg.1,lg.2.1⟩
 exact{
  calm:=h.calm.pop hx
  rest:=λi hi k hk=>by rw[BB h.calm h.rest hx hi];exact h.rest i hi k hk
  len:=by rw[c2];exact h.len
  new:=λσ v hv=>by
   rw[bq.1,bq.2];have hd:be (cD x (ev 4 0 0)).1 σ v:=by
    have e:cU x=(cD x (ev 4 0 0)).1:=by unfold cU bR;rw[if_pos (Hq hx).1]
    rwa[<-e]
   rcases Hw hI (ev 4 0 0) hd with⟨τ,hτ⟩|⟨i,m',hi,lX,_,hN⟩
   .exact h.new τ v hτ
   obtain⟨o1,o2⟩:=h.one m' lX hN.kind;refine .inr ⟨?_,?_,λu hu nN=>amD hI hi (hI.aN.words m' lX) hN (h.sup u hu _ om) nN⟩
   .rw[hN.eq];show m'.aT-10=_;omega
   rw[hN.eq];exact o2
  sup:=λv hv σ hσ=>HJ hI _ (h.sup v hv σ hσ)
  kinds:=λy hy=>by
   rcases X3 y hy with h1|h1
   .exact h.kinds y h1
   have:=h.kinds m dr;omega
  one:=λy hy hk=>by
   rw[bq.1,bq.2];rcases X3 y hy with h1|h1
   .exact h.one y h1 hk
   have:=h.kinds m dr;omega
  over:=by rcases c3 with e|e<;>rw[e];exact h.over;rw[lg.2.2.2.1];exact h.over
  others:=λk hk aW=>by rw[c1 k om aW];exact h.others k om aW}
def jE.qd {V:aA->Prop} {n:Nat} {x:ai} (h:jE V n x):jE V n (dm 1000 x)/\(dm 1000 x).al=[]:=by
 have g:=pg (R:=jE V n) (λ_ _ _ h hx=>h.pop hx) 1000 h;exact⟨g,(BA h.calm).al⟩
def jE.j3 {V:aA->Prop} {n:Nat} {x:ai} (h:jE V n x) (hr:x.al=[]) {i:Nat} (hi:i<4):jE V n (eP x i)/\(eP x i).al=[]:=by
 have hl:=wc h.calm hr hi;have hc:=zG h.calm hi hr;have hk:∀m∈(bR x (ev 8 (i:Int) 0)).al,5<=m.kind:=by rw[hl];exact MP
 have g:jE V n (bR x (ev 8 (i:Int) 0)):={
  calm:=hc
  rest:=λj hj k hk=>by rw[hl];exact h.rest j hj k hk
  len:=by rw[hl];exact h.len
  new:=by rw[hl];exact h.new
  sup:=by rw[hl];exact h.sup
  kinds:=λm hm=>by have:=hk m hm;omega
  one:=λm hm e=>by have:=hk m hm;omega
  over:=by rw[hl];exact h.over
  others:=by rw[hl];exact h.others}
 exact g.qd
def jE.asked {V:aA->Prop} {n:Nat} {x:ai} (h:jE V n x) (hr:x.al=[]) (c:Nat):jE V n (fm x c)/\(fm x c).al=[]:=by
 have U:gE x:=⟨h.calm,hr⟩;by_cases hc:(ab x.calls n).aj=(c:Int)/\bV (ab x.calls n)=true
 .have hl:=zI U h.len hc.2;have ha:=zJ U h.rest h.len hc.2;have hk:∀m∈gD (ab x.calls n),1<=m.kind/\m.aT=10+(ab x.calls n).aj/\m.call=(ab x.calls n).num:=λm hm=>by
   unfold gD at hm;rw[if_pos hc.2] at hm;obtain⟨ws,h1,h2⟩:=List.mem_flatten.1 hm;obtain⟨z,hz,rfl⟩:=List.mem_map.1 h1;have zL:1<=z.kind:=by
    unfold asks at hz;split at hz
    .obtain rfl:=List.mem_singleton.1 hz;show(1:Int)<=1;decide
    rcases List.mem_append.1 hz with hz|hz
    .obtain⟨_,_,rfl⟩:=List.mem_map.1 hz;show(1:Int)<=3;decide
    obtain⟨_,_,rfl⟩:=List.mem_map.1 hz;show(1:Int)<=3;decide
   unfold jq at h2;rcases List.mem_cons.1 h2 with rfl|h2
   .exact⟨zL,rfl,rfl⟩
   obtain rfl:=List.mem_singleton.1 h2;exact⟨zL,rfl,rfl⟩
  have uH:(bR x (ev 2 0 (ab x.calls n).aj)).al=gD (ab x.calls n):=by rw[hl]
  have g:jE V n (bR x (ev 2 0 (ab x.calls n).aj)):={
   calm:=ha.calm
   rest:=ha.rest
   len:=by rw[hl];exact h.len
   new:=by rw[hl];exact h.new
   sup:=by rw[hl];exact h.sup
   kinds:=λm hm=>by rw[uH] at hm;exact(hk m hm).1
   one:=λm hm e=>by
    rw[uH] at hm;have:=(hk m hm).2;rw[hl];exact this
   over:=by rw[hl];exact h.over
   others:=by rw[hl];exact h.others}
  rw[hc.1] at g;exact g.qd
 rw[BD U λk hk e=>by
  by_cases e2:k=n
  .subst e2;cases hw:bV (ab x.calls k) with
   |false=>rfl
   |true=>exact absurd ⟨e,hw⟩ hc
  exact h.others k hk e2]
 exact⟨h,hr⟩
def jE.round {V:aA->Prop} {n:Nat} {x:ai} (h:jE V n x) (hr:x.al=[]):jE V n (eD x)/\(eD x).al=[]:=by
 rw[HH ⟨h.calm,hr⟩];obtain⟨h,hr⟩:=h.j3 hr (i:=0) aP;obtain⟨h,hr⟩:=h.j3 hr (i:=1) aP;obtain⟨h,hr⟩:=h.j3 hr (i:=2) aP;obtain⟨h,hr⟩:=h.j3 hr (i:=3) aP;obtain⟨h,hr⟩:=h.asked hr 0;exact h.asked hr 1
def jE.bl {V:aA->Prop} {n:Nat}:∀(k:Nat) {x:ai},jE V n x->x.al=[]->jE V n (bl k x)
 |0,_,h,_=>h
 |k+1,x,h,hr=>by
  show jE V n (if x.time<79999 then _ else x);split
  .exact jE.bl k (h.round hr).1 (h.round hr).2
  exact h
def lC (w:ai) (e:Ev):ai:=bl 2 (bW w (oP e)).1
def qg (w:ai) (e:Ev):Bool:=(bW w (oP e)).2&&!decide ((lC w e).calls.length=0)
def mh (w:ai) (e:Ev):Call:=if qg w e=true then ab (lC w e).calls ((lC w e).calls.length-1) else oM
def j4 (l:List Ev) (e:Ev):ai:=if 17<(cx l).calls.length then cx l else lC (bl 25 (cx l)) e
def wi (l:List Ev) (e:Ev):Bool:=if 17<(cx l).calls.length then false else qg (bl 25 (cx l)) e
def nT (l:List Ev) (e:Ev):Call:=if 17<(cx l).calls.length then oM else mh (bl 25 (cx l)) e
def Ew {w:ai} {e:Ev} {n:Nat} (h:(bW w (oP e)).2=true) (hn:(lC w e).calls.length=n+1):qg w e=true/\mh w e=ab (lC w e).calls n:=by
 have h1:qg w e=true:=by
  unfold qg;rw[h,hn];simp
 refine⟨h1,?_⟩;unfold mh;rw[if_pos h1,hn];rfl
def X4 {w:ai} (h:cK w=true) (e:Ev):cK (lC w e)=true:=Ej 2 (Ht h _)
def Ex {l:List Ev} {e:Ev} (h:(cx l).calls.length<=17):j4 l e=lC (bl 25 (cx l)) e/\wi l e=qg (bl 25 (cx l)) e/\nT l e=mh (bl 25 (cx l)) e:=by
 refine⟨?_,?_,?_⟩
 .unfold j4;rw[if_neg om]
 .unfold wi;rw[if_neg om]
 unfold nT;rw[if_neg om]
def Ow {l:List Ev} {e:Ev} (h:wi l e=true):(cx l).calls.length<=17:=by
 unfold wi at h;split at h
 .cases h
 omega
def amE {w:ai} (h:Inv w) (ao:cK w=true) (e:Ev):Inv (lC w e):=by
 refine WS 2 ?_;rw[Hv ao];exact h.gv _
end Go.Proofs.YtldbakcpcfdlaaaGreat
set_option linter.all false
set_option maxRecDepth 100000
set_option maxHeartbeats 4000000
namespace Go.Proofs.YtldbakcpcfdlaaaGreat
open Go Go.RowKit Tryz
attribute [local irreducible] wpList Code.wp Ok
def tk.next {f:ai->Nat->ai} {n:Int} {x y:ai} {k:Nat} (h:tk f n x y k) (hg:bX (f y k)) (ht:(f y k).time<=y.time+n):tk f n x (f y k) (k+1):=
 ⟨hg,by have h1:=h.time;have h2:n*((k+1:Nat):Int)=n*k+n:=by rw[Int.natCast_add,Int.mul_add];simp
        omega,by rw[List.range_succ,List.foldl_append,<-h.eq];rfl⟩
def zD.next {m:Nat} {x y:ai} {k:Nat} (h:zD m x y k) (hk:k<m) (ht:y.time<79999):zD m x (eD y) (k+1):=by
 have h1:=Nw y;refine⟨WW h.aN om,by omega,?_⟩;rw[<-h.rest,show m-k=(m-(k+1))+1 by omega];show _=(if y.time<79999 then bl (m-(k+1)) (eD y) else y);rw[if_pos ht]
def zD.stop {m:Nat} {x y:ai} {k:Nat} (h:zD m x y k) (hk:¬k<m\/¬y.time<79999):y=bl m x:=by
 rw[<-h.rest];rcases hk with hk|hk
 .rw[show m-k=0 by omega];rfl
 cases m-k with
 |zero=>rfl
 |succ n=>unfold bl;rw[if_neg hk]
def amw {x:ai} {m:az} {r:List az} (hx:x.al=m::r):kJ x (cU x):=by
 rcases xJ hx with e|⟨k,hk,ox,e⟩
 .exact .of e
 refine⟨by rw[e,List.length_set],λn hn=>?_,λn hn he=>?_,λn hn hf=>Xm hx hf⟩
 .rw[e,fC hk];split
  .rename_i e2;subst e2;exact Hd _ _ _
  exact j2.refl _
 rw[e,fC hk,if_neg];rintro rfl;rw[he] at ox;cases ox
def Oo {w:ai} (n:Nat):kJ w (dm n w):=pg (R:=λx=>kJ w x) (λ_ _ _ h hx=>h.trans (amw hx)) n (.of rfl)
def HX (w:ai) (i:Nat):kJ w (eP w i):=(kJ.of (ak5 w i)).trans (Oo 1000)
def qf (w:ai) (c:Nat):kJ w (fm w c):=(kJ.of (ak6 w c)).trans (Oo 1000)
def HY (w:ai):kJ w (jb w):=(HX w 0).trans ((HX _ 1).trans ((HX _ 2).trans (HX _ 3)))
def XU {w:ai} (h:gE w) (hr:Rest w) (c:Nat) {n:Nat} (hn:n<w.calls.length) (e:(ab w.calls n).aj=(c:Int)):nd (ab (fm w c).calls n):=by
 have hk:=qf w c;cases hw:bV (ab w.calls n) with
 |false=>exact hk.filled n hn λh2=>by rw[hw] at h2;cases h2
 |true=>
  have ec:(ab w.calls n).aj.toNat=c:=by omega
  by_cases mw:(ab w.calls n).kind=1
  .have:=akQ h hr hn hw mw
   rw[ec] at this
   exactλh2=>by rw[this] at h2;cases h2
  intro h2
  refine⟨by rw[(hk.same n hn).2.2.1];exact mw,λκ hκ=>?_⟩
  rw[(hk.same n hn).2.2.2.1] at hκ
  have:=akR h hr hn hw mw hκ
  rw[ec] at this
  exact this h2
def XV {w:ai} (h:gE w) (hr:Rest w) (c:Nat) {n:Nat} (hn:n<w.calls.length) (e:(ab w.calls n).aj=(c:Int)) (hF:nd (ab w.calls n)):bV (ab (fm w c).calls n)=false:=by
 cases hw:bV (ab w.calls n) with
 |false=>rw[(qf w c).ended n hn hw];exact hw
 |true=>
  have:=akW h hr hn hw hF
  rwa[show(ab w.calls n).aj.toNat=c by omega] at this
def amx {w:ai} (h:gE w) (hr:Rest w):gE (xK w)/\Rest (xK w)/\∀n,n<w.calls.length->nd (ab (xK w).calls n):=by
 obtain⟨s0,r0⟩:=Ei h hr 0;obtain⟨s1,r1⟩:=Ei s0 r0 1;refine⟨s1,r1,λn hn=>?_⟩;have hk:=qf w 0;have Eu:n<(fm w 0).calls.length:=by rw[hk.len];exact hn
 have bq:=pe h.calm.inv.aN (bh hn);rcases(by omega:(ab w.calls n).aj=((0:Nat):Int)\/(ab w.calls n).aj=((1:Nat):Int)) with e|e
 .exact(qf _ 1).filled n Eu (XU h hr 0 hn e)
 exact XU s0 r0 1 Eu (by rw[(hk.same n hn).1];exact e)
def amy {w:ai} (h:gE w) (hr:Rest w) (hF:∀n,n<w.calls.length->nd (ab w.calls n)):∀n,n<w.calls.length->bV (ab (xK w).calls n)=false:=by
 obtain⟨s0,r0⟩:=Ei h hr 0;intro n hn;have hk:=qf w 0;have Eu:n<(fm w 0).calls.length:=by rw[hk.len];exact hn
 have bq:=pe h.calm.inv.aN (bh hn);rcases(by omega:(ab w.calls n).aj=((0:Nat):Int)\/(ab w.calls n).aj=((1:Nat):Int)) with e|e
 .have he:=XV h hr 0 hn e (hF n hn);show bV (ab (fm (fm w 0) 1).calls n)=false;rw[(qf _ 1).ended n Eu he];exact he
 exact XV s0 r0 1 Eu (by rw[(hk.same n hn).1];exact e) (hk.filled n hn (hF n hn))
def HZ {w:ai} (h:Inv w) (hm:iH w) (i:Nat):mg w (eP w i) 121:=by
 have h1:=we h hm (ev 8 (i:Int) 0);exact(h1.trans (NM h1.inv h1.more)).mono om
def XW {w:ai} (h:Inv w) (hm:iH w) (c:Nat):mg w (fm w c) 121:=by
 have h1:=we h hm (ev 2 0 (c:Int));exact(h1.trans (NM h1.inv h1.more)).mono om
def BG {w:ai} (h:Inv w) (hm:iH w):mg w (eD w) 850:=by
 rw[HG];have a1:=we h hm (ev 7 ((0:Nat):Int) 0);have a2:=a1.trans (we a1.inv a1.more (ev 7 ((1:Nat):Int) 0));have a3:=a2.trans (we a2.inv a2.more (ev 7 ((2:Nat):Int) 0));have a4:=a3.trans (we a3.inv a3.more (ev 7 ((3:Nat):Int) 0));rw[<-HF] at a4;have b:=a4.trans (NM a4.inv a4.more);have c0:=b.trans (HZ b.inv b.more 0);have c1:=c0.trans (HZ c0.inv c0.more 1);have c2:=c1.trans (HZ c1.inv c1.more 2);have c3:=c2.trans (HZ c2.inv c2.more 3);have d0:=c3.trans (XW c3.inv c3.more 0);have d1:=d0.trans (XW d0.inv d0.more 1);exact d1.mono om
def XX {w:ai} (h:Inv w) (hm:iH w):gE (eD w)/\Rest (eD w)/\∀n,n<(eD w).calls.length->nd (ab (eD w).calls n):=by
 have s:=W2 (BA (Xu h hm));have r:=akv (BA (Xu h hm));obtain⟨a,b,f⟩:=amx s r;rw[HG];refine⟨a,b,λn hn=>f n ?_⟩;have:=((qf (jb (dm 1000 (iJ w))) 0).trans (qf _ 1)).len;rw[<-this];exact hn
def XY {w:ai} (h:gE w) (hr:Rest w) (hF:∀n,n<w.calls.length->nd (ab w.calls n)):ie (eD w) 0/\kD (eD w):=by
 rw[HH h];have s:=W2 h;have r:=akD h hr;have p:=akC h hr;have k:=HY w;have f:∀n,n<(jb w).calls.length->nd (ab (jb w).calls n):=λn hn=>k.filled n (by rw[<-k.len];exact hn) (hF n (by rw[<-k.len];exact hn));obtain⟨s0,r0⟩:=Ei s r 0;obtain⟨s1,r1⟩:=Ei s0 r0 1;have k0:=qf (jb w) 0;have p0:=Xv s r p 0 f;have p1:=Xv s0 r0 p0 1 λn hn=>k0.filled n (by rw[<-k0.len];exact hn) (f n (by rw[<-k0.len];exact hn));have he:=amy s r f;refine⟨⟨s1,r1,p1,λi hi v hv=>?_⟩,λn hn=>he n ?_⟩
 .have:=pO (iW (fw (s1.calm.inv.cT hi).waits v hv)).2.1;omega
 have:=((qf (jb w) 0).trans (qf _ 1)).len;rw[<-this];exact hn
def XZ {w:ai} {r:Int} (h:ie w r) (he:kD w):eD w=jb w/\ie (eD w) (r+1)/\kD (eD w):=by
 have q:=h.Xc.1;have k:=HY w;have pH:kD (jb w):=λn hn=>by
  rw[k.ended n (by rw[<-k.len];exact hn) (he n (by rw[<-k.len];exact hn))];exact he n (by rw[<-k.len];exact hn)
 have e0:fm (jb w) 0=jb w:=BD q.still λn hn _=>pH n hn;have e1:fm (jb w) 1=jb w:=BD q.still λn hn _=>pH n hn;have e:eD w=jb w:=by
  rw[HH h.still];unfold xK;rw[e0,e1]
 rw[e];exact⟨_root_.rfl,q,pH⟩
def Oq:∀(n:Nat) {w:ai} {r:Int},ie w r->kD w->w.time+850*n<=79999->ie (bl n w) (r+n)/\kD (bl n w)/\mg w (bl n w) (850*n)/\(∀j,j<4->(sv (bl n w) j).aD=(sv w j).aD)/\(bl n w).calls=w.calls
 |0,w,r,h,he,_=>⟨h.less om,he,mg.rfl h.still.calm.inv h.still.calm.more,λ_ _=>rfl,rfl⟩
 |n+1,w,r,h,he,ht=>by
  obtain⟨e,q,pH⟩:=XZ h he;have g:=BG h.still.calm.inv h.still.calm.more;obtain⟨a,b,d,f,k⟩:=Oq n q pH (by have:=g.time;omega);unfold bl;rw[if_pos om];refine⟨a.less om,b,(g.trans d).mono om,λj hj=>?_,?_⟩
  .rw[f j hj,e];exact h.Xc.2.2.1 j hj
  rw[k,e];have kt:=HY w;refine List.ext_getElem kt.len λi h1 h2=>?_;have:=kt.ended i h2 (he i h2);simpa[ab,h1,h2] using this
def amz (x:ai) (hf:x.Fit) (hl:x.calls.length<=1048576):
 Fn prog 34 [x.av] (AV.bool (zh x)):=by
 refine Fn.go 13 func34 ntmps34 (λW I a U=>?_);refine bk λI a w U=>?_;refine U.o (.c1 (zx x hf hl)) λU=>?_;refine aG λI a w U=>?_;refine U.q .T (CB (λhg=>XM x 0 hg om) (ax .ag (ax .c aH))) λU=>?_;refine bk λI a w U=>?_;refine U.q .T (CB (λhg=>XM x 1 (by simp at hg;exact hg.1) om) (ax .ag (ax .c aH))) λU=>?_;refine c8 ?_;rfl
def X0 {x:ai} (ao:cK x=true) (h:zh x=true):Fn prog 34 [x.av] (AV.bool true):=h▸amz x (fD.1 ao).1.Fit (fD.1 ao).1.small.2.2.1.1
def BE.next {w x:ai} {n:Nat} (h:BE w x n) (ht:w.time+n<=99999) (e:Ev):BE w (bW x e).1 (n+1):=by
 rw[Hv (h.ok ht)];refine⟨h.inv.gv e,h.more.gv h.inv e,?_⟩;have h1:=h.time;unfold gv;split
 .rw[Bn];omega
 show x.time<=_;omega
def Ot {w:ai} (h:Inv w) (hm:iH w) (ht:w.time<=90000):∀{k:Nat},k<=4->BE w (ld w k) (2*k)
 |0,_=>⟨h,hm,by show w.time<=_;omega⟩
 |k+1,hk=>by
  have h1:=Ot h hm ht (k:=k) om;have h2:=(h1.next om (ev 2 0 ((k%2:Nat):Int))).next om (LD ((zK (ld w k) (k%2)).al.length-1))
  exact⟨h2.inv,h2.more,by have:=h2.time;show(Ek (ld w k) (k%2)).time<=_;exact Int.le_trans this om⟩
def X1 (l:List Ev) {k:Nat} (hk:k<=4):cK (ld (cx l) k)=true/\cK (zK (ld (cx l) k) (k%2))=true:=by
 have ht:=NN l;have U:=Ot (D8 l).1 (Nv l) om hk;have h1:=U.ok om;exact⟨h1,Ht h1 _⟩
end Go.Proofs.YtldbakcpcfdlaaaGreat
