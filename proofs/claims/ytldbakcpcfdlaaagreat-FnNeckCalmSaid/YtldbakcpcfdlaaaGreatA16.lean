/- Part 16: contracts of functions, plain facts. -/
import Derived.Test.YtldbakcpcfdlaaaGreatA12
import Derived.Test.YtldbakcpcfdlaaaGreatA13
import Derived.Test.YtldbakcpcfdlaaaGreatA14
set_option linter.all false
set_option maxRecDepth 100000
set_option maxHeartbeats 4000000
namespace Go.Proofs.YtldbakcpcfdlaaaGreat
open Go Go.RowKit Tryz
attribute [local irreducible] wpList Code.wp Ok
def NM (n:Int) (hn:iQ n):
 Fn prog 145 [AV.int n] (AV.bool (kH n)):=by
 refine Fn.go 10 func145 ntmps145 (λW I a U=>?_);refine aF λI a w U=>?_;refine U.o (.c1 (rV ..)) λU=>?_;refine aF λI a w U=>?_;refine U.q .F (QV (.g rfl (λh=>h)) .c) λU=>?_;refine U.q .F (.cl (ya ..)) λU=>?_;refine dh ?_;exact bI (by rw[V1 hn,UY];rfl)
def FH {c:Call} (hk:jK c.keys=true) (h:lM c=true):c.az.length<=c.keys.length:=
 Bn (f:=Answer.key) (M3 hk) (M2 λi h0 hi=>by
  have:=(iR.1 h) i hi;unfold m8 et at this;simp[fS] at this;have h1:=this.1.2;omega) λa ha=>by
  obtain⟨k,eo,rfl⟩:=iz ha;exact yl.1 (E8 h eo).2
def FI (a b d:cA):dI (dI a b) d=dI a (dI b d):=EY λx=>by simp only[Bo,Bool.or_assoc]
def Xi (a b:cA):dI a b=dI b a:=EY λx=>by simp only[Bo];rw[Bool.or_comm]
def oD {s:cA} (h:s=gM\/c7 s=true):dI gM s=s:=by
 unfold dI;rcases h with rfl|h
 .simp
 rw[if_pos (LQ (rY h))]
def yC {s:cA} (h:s=gM\/c7 s=true):dI s gM=s:=by rw[Xi,oD h]
def rb:∀{l:List an} {last:Int},dm last l=true->∀key,cv l key=gM\/c7 (cv l key)=true
 |[],_,_,key=>Or.inl rfl
 |e::r,last,h,key=>by
  simp only[dm,Bool.and_eq_true] at h;rw[j9];split
  .exact Or.inr h.1.2
  exact rb h.2 key
def BB:∀{l:List an} {last:Int} {d:an} (key:Int),dm last l=true->c7 d.ax=true->cv (fR l d) key=if d.key=key then dI (cv l key) d.ax else cv l key
 |[],last,d,key,_,U=>by
  unfold fR;rw[j9];split
  .show d.ax=dI gM d.ax;rw[oD (Or.inr U)]
  rfl
 |e::r,last,d,key,h,U=>by
  have h':=h;simp only[dm,Bool.and_eq_true] at h;unfold fR;split
  .rename_i hk;rw[j9,j9];have e1:(if c8 e.ax d.ax=true then d else e).key=e.key:=by split<;>simp[hk]
   rw[e1,hk];split
   .unfold dI;split<;>rfl
   rfl
  rename_i hk;split
  .rename_i cj;rw[j9];split
   .rename_i iT;have:cv (e::r) key=gM:=by
     have hd:dm d.key (e::r)=true:=by
      simp only[dm,Bool.and_eq_true];refine⟨⟨?_,h.1.2⟩,h.2⟩;have:=h.1.1;simp[aQ] at this⊢;omega
     exact wg hd om
    rw[this,oD (Or.inr U)]
   rfl
  rename_i cj;rw[j9,j9,BB key h.2 U];by_cases r4:e.key=key
  .rw[if_pos r4,if_pos r4,if_neg om]
  rw[if_neg r4,if_neg r4]
def FJ {a b:List an} (ha:bP a=true) (hb:bP b=true) (key:Int):cv (iZ a b) key=dI (cv a key) (cv b key):=by
 have C5:∀d∈b,gU d=true:=λd hd=>nV hb hd;have Xj:∀{b:List an} {last:Int} {a:List an},bP a=true->dm last b=true->(∀d∈b,gU d=true)->cv (iZ a b) key=dI (cv a key) (cv b key):=by
  intro b;induction b with
  |nil=>
   intro last a ha _ _
   show cv a key=dI (cv a key) gM
   rw[yC (rb ha key)]
  |cons d r ih=>
   intro last a ha hb aU
   have hd:=aU d bt
   have jg:=hd
   simp only[gU,Bool.and_eq_true] at jg
   simp only[dm,Bool.and_eq_true] at hb
   show cv (iZ (fR a d) r) key=_
   rw[ih (wc ha hd) hb.2 λe he=>aU e (by simp[he]),BB key ha jg.2,j9]
   split
   .rename_i hk
    have:cv r key=gM:=wg hb.2 om
    rw[this,yC]
    have h1:=rb ha key
    rcases h1 with h1|h1
    .rw[h1,oD (Or.inr jg.2)];exact Or.inr jg.2
    right
    unfold dI;split
    .exact jg.2
    exact h1
   rfl
 exact Xj ha hb C5
def pO:List Answer->Int->cA
 |[],_=>gM
 |a::r,key=>dI (cv a.bF.aS key) (pO r key)
def rf:∀{l:List Answer} {acc:List an},bP acc=true->(∀a∈l,dH a=true)->bP (l.foldl ll acc)=true/\∀key,cv (l.foldl ll acc) key=dI (cv acc key) (pO l key)
 |[],acc,ha,_=>⟨ha,λkey=>by show cv acc key=dI (cv acc key) gM;rw[yC (rb ha key)]⟩
 |a::r,acc,ha,h=>by
  have hd:=qU (h a bt);have h1:bP (ll acc a)=true:=we ha λd jg=>nV hd jg;have h2:=rf (l:=r) h1 λb hb=>h b (by simp[hb]);refine⟨h2.1,λkey=>?_⟩;show cv (r.foldl ll (ll acc a)) key=_;rw[h2.2 key];unfold ll;rw[FJ ha hd,FI];rfl
def nC (q:Call) (a:Answer) (time:Int):Call:=
 let x:={q with az:=df q.az a}
 if x.az.length<x.keys.length then x else lR {x with aL:=x.aL++ka x} time
def jz (q:Call) (m:aw) (time:Int):Call:=
 if m.kind=4/\(m.yes=true->m.ar.length=1/\(ab m.ar 0).key=m.key) then
  if cE q m.key<0 then(if dW m.ax then nC q (dB m) time else q)
  else if m.yes then np q (dB m) time else q
 else q
def dJ (q:Call) (m:aw) (time:Int):Call:=
 if bQ m&&(m.to==10+q.aA)&&(m.call==q.num)&&gz q.keys m.key&&g0 q&&decide (q.bq<time) then
  if q.kind=1 then(if m.kind=2/\c7 m.ax=true then{q with ax:=m.ax,end_:=time} else q)
  else jz q m time
 else q
def oE (w:aJ) (e:Ev):Call:={AZ with aA:=e.aA,num:=qX w.calls e.aA+1,kind:=e.call,keys:=lU e,val:=if e.call=1 then e.val else 0,ctx:=ab w.seen e.aA.toNat,bq:=w.time}
def kb (w:aJ) (e:Ev):aJ×Bool:=
 if eN e.aA&&decide (cw w.calls e.aA<0) then({w with calls:=w.calls++[oE w e]},iI (w.calls++[oE w e]) w.time) else(w,false)
def oF (w:aJ) (m:aw):aJ:=
 let i:=cw w.calls (m.to-10)
 if i<0 then w else
  let q:=dJ (ab w.calls i.toNat) m w.time
  let w1:={w with calls:=w.calls.set i.toNat q}
  if 0<q.end_ then{w1 with seen:=w.seen.set (m.to-10).toNat (jx q)} else w1
def FK (x y:List an) (hx:bP x=true) (hy:bP y=true):
 Fn prog 330 [bf x,bf y] (bf (iZ x y)):=by
 refine Fn.go 32 func330 ntmps330 (λW I a U=>?_);have pJ:=dY hx;have Xk:=dY hy;refine aF λI a w U=>?_;refine U.o (.cl (m7 ..)) λU=>?_;refine bc λI a w U=>?_;refine U.q .F (.cl (m7 ..)) λU=>?_;refine aq λI a w U=>?_;refine U.cd (λae=>?_) λae=>?_
 .exfalso;rw[hx,hy] at ae;cases ae;skip
 refine zt ?_;refine U.l0 λvQ I a w U=>?_;refine U.m λU=>?_;refine U.ap 0 λMo a w U=>?_;obtain⟨I,U⟩:=U.fr 0 18;have U:=U.drop 0;refine aq λI a w U=>?_;refine St.lo (σ:=Nat) (run 2 5 (run 12 19 [])) ⟨λk=>[(6,AV.int k),(5,bf (iZ x (y.take k)))],λk=>[],λk=>k<=y.length⟩ (λk=>y.length-k) 0 U ?aH ?bx;case aH=>exact Nat.zero_le _
 rintro k I a w al U;have hk:k<=y.length:=al;refine aV λI a w U=>?_;refine cz (λah=>?_) λah=>?_
 .refine bK λI a w U=>?_;refine U.o (.cl (A0 _ _ (MW hx hy k) (nV hy (bB ah)))) λU=>?_;refine aV λI a w U=>?_;refine U.again (k+1) ?ik ?il ef ?im (by repeat(first|exact Env.le_rfl|refine Env.iB rfl ?_));case ik=>omega
  case il=>exact ah
  case im=>exact(Env.dM rfl ef (Env.dM rfl (by exact congrArg bf (by rw[MV ah])) Env.le_nil))
 refine zt ?_;refine dh ?_;exact congrArg bf (by rw[List.take_of_length_le om])
def Xl {q:Call} {time:Int} (h:ko q time=true):q.az.length<=3/\q.aL.length<=6:=by
 simp only[ko,nb,Bool.and_eq_true] at h;have hk:ie q=true:=h.1.1.1.1.1.1.2;have hd:bP q.aL=true:=h.1.1.1.2;have hg:lM q=true:=h.2.1.1;have h3:q.keys.length<=3:=by
  unfold ie at hk;rw[Bool.and_eq_true] at hk;have:=hk.2;simp[aQ] at this;omega
 have BC:jK q.keys=true:=by unfold ie at hk;rw[Bool.and_eq_true] at hk;exact hk.1
 have:=FH BC hg;exact⟨by omega,dY hd⟩
def Xm (q:Call) (hg:∀y∈q.az,dH y=true):
 Fn prog 331 [q.av] (bf (eL q)):=by
 refine Fn.go 23 func331 ntmps331 (λW I a U=>?_);have lens:q.keys.length<=9223372036854775807/\q.az.length<=9223372036854775807/\q.aL.length<=9223372036854775807:=⟨U.ln 0 3,U.ln 0 11,U.ln 0 12⟩;refine aq λI a w U=>?_;refine U.l0 λb5 I a w U=>?_;obtain⟨I,U⟩:=U.fr 0 5;have U:=U.drop 0;refine aq λI a w U=>?_;refine St.lo (σ:=Nat) (run 2 3 (run 16 6 [])) ⟨λk=>[(4,AV.int k),(3,bf ((q.az.take k).foldl ll []))],λk=>[],λk=>k<=q.az.length⟩ (λk=>q.az.length-k) 0 U ?aH ?bx;case aH=>exact Nat.zero_le _
 rintro k I a w al U;have hk:k<=q.az.length:=al;refine cn λI a w U=>?_;refine cz (λae=>?_) λae=>?_
 .refine j3 λI a w U=>?_;refine U.o (.cl (FK _ _ (rf (acc:=[]) rfl (wi hg k)).1 (qU (hg _ (bB ae))))) λU=>?_;refine aV λI a w U=>?_;refine U.again (k+1) ?ik ?il ef ?im (by repeat(first|exact Env.le_rfl|refine Env.iB rfl ?_));case ik=>omega
  case il=>exact ae
  case im=>exact(Env.dM rfl ef (Env.dM rfl (by exact congrArg bf (by rw[wh ae];rfl)) Env.le_nil))
 refine zt ?_;refine dh ?_;exact congrArg bf (by rw[List.take_of_length_le om];rfl)
def sj (x:aJ):Prop:=(x.aC.length<=1048576/\∀s∈x.aC,ou s)/\(x.au.length<=1048576/\∀m∈x.au,iY m)/\(x.calls.length<=1048576/\∀q∈x.calls,vL q)/\x.seen.length<=1048576/\∀l∈x.seen,l.length<=1048576
def Xn (s:Server) (h:ou s):
 bJ prog 165 [s.av] [] (λ_:Value=>True) (λv=>[Own.row v 97 2 (s.aN.map cI.cells)]) s.vM:=by
 refine bJ.intro 27 func165 rfl ntmps165 rfl aP (λW I a U=>?_);obtain⟨h1,⟨h2,h3⟩,⟨h4,h5⟩,h6,h7⟩:=h;refine sr<|U.box rfl .tt λb1 I a w U=>U.alloc rfl ck c9 λb2 I a w U=>?_;refine zt ?_;refine U.l0 λb3 I a w U=>?_;refine aF λI a w U=>?_;refine U.ap 2 λv6 a w U=>?_;refine U.o .fv λU=>?_;try have Xo:=U.dK 2 rfl
 refine bc λI a w U=>?_;refine U.o (.cl (qI s.ar h2 h3)) λU=>?_;refine bj λI a w U=>?_;refine U.o (.cl (qI s.waits h4 h5)) λU=>?_;refine aq λI a w U=>?_;refine U.l0 λvQ I a w U=>?_;refine aF λI a w U=>?_;refine U.ap 3 λj6 a w U=>?_;obtain⟨I,U⟩:=U.fr 3 19;refine U.o .fv λU=>?_;try have LK:=U.dK 3 rfl
 refine ao λI a w U=>?_;refine U.l0 λvR I a w U=>?_;refine aF λI a w U=>?_;refine U.ap 4 λtx a w U=>?_;obtain⟨I,U⟩:=U.fr 4 24;refine U.o .fv λU=>?_;try have NN:=U.dK 4 rfl
 refine aM λI a w U=>?_;exact U.bD v6 [2] rfl (.cons (.s 1 ck rfl rfl (by first|rfl|assumption)) .nil) trivial rfl rfl
def BD {s:Server} {slot:Int} (h:bA s) (hk:ld s slot=true):bA (oe s slot):=by
 obtain⟨_,h1,h2,h3,h4⟩:=ye hk;have hg:=tM.1 (Bh h (i:=slot.toNat) om);refine h.LD h1 ?_ (λv _ _=>by simp) (λv _ _=>by simp) om;rw[tM];exact⟨by simp;omega,by simp;omega,by simp,by simp,λ_=>by simp;omega⟩
def Xp {q:Call} (h:q.az.Pairwise λa b=>fS a b=true) {i:Nat} (hi:i<q.az.length):cE q (ab q.az i).key=i:=by
 have h0:0<=cE q (ab q.az i).key:=Bi.2 ⟨_,bB hi,rfl⟩;obtain⟨h1,h2⟩:=wk h0;have:=WM h h1 hi h2;omega
def FL {q:Call} (h:q.az.Pairwise λa b=>fS a b=true) {d:an}:qL q d=true↔∃a∈q.az,a.key=d.key/\my a d.ax=true:=by
 unfold qL;rw[Bool.and_eq_true,decide_eq_true_eq];constructor
 .rintro⟨h1,h2⟩;exact⟨_,bB (wk h1).1,(wk h1).2,h2⟩
 rintro⟨a,ha,hk,ho⟩;obtain⟨i,hi,rfl⟩:=iz ha;have e:=Xp h hi;rw[hk] at e;rw[e];exact⟨by omega,ho⟩
def Xq {a:Answer} (h:dH a=true):c8 a.bF.ax gM=false:=by
 cases hy:a.yes
 .rw[Bp h hy];rfl
 exact Vq (rY (jL (sh h hy).1).2.1)
def FM (qW:List an) (U:∀key,qN (cv qW key)):∀{l:List Answer} {last:Int},(l.Pairwise λa b=>fS a b=true)->(∀a∈l,last<a.key/\a.key<=5)->(∀a∈l,dH a=true)->dm last (l.map (mJ qW)).flatten=true
 |[],_,_,_,_=>rfl
 |a::r,last,hp,hk,hg=>by
  rw[List.pairwise_cons] at hp;rw[List.map_cons,List.flatten_cons];have ha:=hk a bt;have qw:∀x∈r,dH x=true:=λx hx=>hg x (by simp[hx]);unfold mJ;split
  .rename_i hl;have cK:c7 (cv qW a.key)=true:=by
    rcases U a.key with e|e
    .rw[e,Xq (hg a bt)] at hl;cases hl
    exact e
   show(aQ a.key (last+1) 5&&c7 (cv qW a.key)&&dm a.key _)=true;rw[cK,show aQ a.key (last+1) 5=true by simp[aQ];omega,Bool.true_and,Bool.true_and];exact FM qW U hp.2 (λx hx=>⟨by have:=hp.1 x hx;unfold fS at this;rwa[decide_eq_true_eq] at this,(hk x (by simp[hx])).2⟩) qw
  rw[List.nil_append];exact FM qW U hp.2 (λx hx=>hk x (by simp[hx])) qw
def dQ.np {q:Call} {t:Int} (h:dQ q t) (hw:g0 q=true) (hb:q.bq<t) (hk:q.kind≠1) {a:Answer} (ha:dH a=true) (hy:a.yes=true):dQ (np q a t) t:=by
 obtain⟨he,ho⟩:=wa hw;have bX:dW q.ax=true:=h.open_ he;unfold Go.Proofs.YtldbakcpcfdlaaaGreat.np;split
 .rename_i hm;have zV:=(yt ha hy).2;have FN:=h.vI _ hm;have h0:0<=cE q a.key:=by
   unfold qL at FN;rw[Bool.and_eq_true,decide_eq_true_eq,zV] at FN;exact FN.1
  obtain⟨h1,h2⟩:=wk h0;have hlen:(q.az.set (cE q a.key).toNat a).length=q.az.length:=List.length_set ..;have NO:q.az.length=q.keys.length:=h.full.resolve_left λe=>by rw[e] at hm;simp at hm
  have sk:∀x∈q.az.set (cE q a.key).toNat a,dH x=true:=λx hx=>by
   rcases Mx hx with rfl|⟨k,eo,_,rfl⟩
   .exact ha
   exact h.cH _ (bB eo)
  have tX:∀x∈q.az.set (cE q a.key).toNat a,gz q.keys x.key=true:=λx hx=>by
   rcases Mx hx with rfl|⟨k,eo,_,rfl⟩
   .have:=h.has _ (bB h1);rwa[h2] at this
   exact h.has _ (bB eo)
  have Xr:(q.az.set (cE q a.key).toNat a).map Answer.key=q.az.map Answer.key:=by
   rw[List.map_set];apply List.ext_getElem
   .simp
   intro n Wg uO;by_cases e:(cE q a.key).toNat=n
   .subst e;rw[List.getElem_set_self,List.getElem_map];exact h2.symm.trans (by simp[ab,h1])
   rw[List.getElem_set_ne e]
  have rh:(q.az.set (cE q a.key).toNat a).Pairwise λa b=>fS a b=true:=by
   have e:∀l:List Answer,(l.Pairwise λa b=>fS a b=true)↔(l.map Answer.key).Pairwise (·<·):=λl=>by
    rw[List.pairwise_map];constructor<;>intro hh<;>refine hh.imp λhl=>?_
    .unfold fS at hl;rwa[decide_eq_true_eq] at hl
    unfold fS;rwa[decide_eq_true_eq]
   rw[e,Xr,<-e];exact h.sorted
  have BE:∀d∈q.aL.filter (λd=>decide (d≠a.bF.bG)),qL {q with az:=q.az.set (cE q a.key).toNat a,aL:=q.aL.filter λd=>decide (d≠a.bF.bG)} d=true:=λd hd=>by
   obtain⟨vY,yD⟩:=List.mem_filter.1 hd;rw[decide_eq_true_eq] at yD;have Xs:d.key≠a.key:=λe=>yD (Ng h.aL vY hm (by rw[e,zV]));obtain⟨x,hx,tY,so⟩:=(FL h.sorted).1 (h.vI d vY);obtain⟨k,eo,rfl⟩:=iz hx;refine(FL rh).2 ⟨ab q.az k,We eo λe=>?_,tY,so⟩;subst e;rw[h2] at tY;exact Xs tY.symm
  have dU:bP (q.aL.filter λd=>decide (d≠a.bF.bG))=true:=My _ h.aL;dsimp only;split
  .rename_i hz;exact⟨h.aA,h.num,h.keys,h.val,h.ctx,dU,h.bq,h.fits,tX,rh,sk,BE,.inl hz,λe=>absurd e hk,h.read,λ_=>bX,
    λ_=>⟨ho,⟨by show q.bq+1<=t;omega,Int.le_refl _⟩,hz,λe=>absurd e hk,λ_=>by show(q.az.set _ _).length=_;rw[hlen];exact NO⟩⟩
  exact⟨h.aA,h.num,h.keys,h.val,h.ctx,dU,h.bq,h.fits,tX,rh,sk,BE,.inr (by show(q.az.set _ _).length=_;rw[hlen];exact NO),λe=>absurd e hk,h.read,h.open_,λe=>absurd he e⟩
 exact h
def Xt (s:Server) (m:aw) (al:dZ s) (h0:cQ s.site=true) (ho:s.aE.length<=80) (hm:bQ m=true):
 Fn prog 316 [s.av,m.av] ((nz s m).av):=by
 refine Fn.go 53 func316 ntmps316 (λW I a U=>?_);have ot:=AQ hm;have h3:=al.aN;have h4:(eb s m.slot).aN.length=3:=h3;have e9:∀x,x=cI.cells ⟨m.bU,0⟩->(List.map cI.cells (eb s m.slot).aN).set m.slot.toNat x=List.map cI.cells (rU s m).aN:=λx h=>by rw[h];exact List.map_set.symm
 refine sr<|U.box rfl .tt λb2 I a w U=>U.o .bp λU=>U.alloc rfl ck c9 λb4 I a w U=>nn<|wp_seq<|wp_seq<|U.dk ?_;refine dq ?_;refine .o (.c1 (vE _ h0)) ?_;refine mq ?_;refine jJ ?_;refine .nil ?_;intro I a w U;refine ba ?_;refine U.cd (λae=>?_) λae=>?_
 .rw[MC s m] at ae;replace ae:=nt ae;refine aq λI a w U=>?_;refine U.ret rfl (.cons (.sx 1) aX.nil) ?_;exact(by unfold nz;rw[ae];rfl)
 rw[MC s m] at ae;replace ae:=nf ae;refine bc λI a w U=>?_;refine U.o (.c2 (MD s m.slot al.ar al.waits ho)) λU=>?_;refine ao λI a w U=>?_;refine U.l0 λb38 I a w U=>?_;refine aF λI a w U=>?_;refine U.ap 2 λvT a w U=>?_;refine U.o .fv λU=>?_;try have ait:=U.dK 2 rfl
 refine ao λI a w U=>?_;simp only[List.nil_append] at U;obtain⟨b41,aiv,Xu⟩:=U.gv 2 rfl mR;subst Xu;refine dp λI a w U=>?_;refine U.o (.bd mr (.k aT.nil)) λU=>?_;refine U.o (fj fq dR .tt .tt (λ_=>by simp only[List.length_map];omega)) λU=>?_;refine U.jf 2 dR .tt .tt rfl (by exact dL om) rfl rfl λa w U=>?_;refine zt ?_;rw[e9] at U;rotate_left
 .rfl
 obtain⟨I,U⟩:=U.fu 2 2 0;refine bw λI a w U=>?_;refine U.o (.c1 (vP (rU s m) (al.gone m))) λU=>?_;refine ao λI a w U=>?_;refine U.ret rfl (.cons (.sx 1) aX.nil) ?_;exact(by unfold nz;rw[ae];rfl)
def Xv (s:Server) (d:an) (x:AV):
 Fn prog 348 [s.U9 x,d.av] (AV.bool (gV s d)):=by
 refine Fn.go 9 func348 ntmps348 (λW I a U=>?_);refine bK λI a w U=>?_;refine U.o (mb (ai .tt aB)) λU=>?_;refine U.o (.cl (MR s.waits (ob d) _ (λv _=>Fn.val (LY v d)))) λU=>?_;refine bk ?_;exact bI (by unfold gV;rw[<-yd];simp)
def Xw (b:Nat) (s:Server) (x:AV) (d:an):
 fQ prog 365 [d.av,AV.val (.pointer (some ⟨b,0,none⟩))] [Own.box b 95 [AV.int s.site,AV.bool s.up,qj s.aN,bV s.ar,bV s.waits,bf s.aE,x]] [Own.box b 95 [AV.int s.site,AV.bool s.up,qj s.aN,bV s.ar,bV s.waits,bf s.aE,x]] (AV.bool (!gV s d)):=by
 refine fQ.intro 8 func365 rfl ntmps365 rfl aP (λW I a U=>?_);refine bj λI a w U=>?_;refine U.o (.c2 (Xv s d x)) λU=>?_;refine aq λI a w U=>?_;refine U.bD () [0] rfl (.cons (.t rfl) .nil) trivial rfl rfl
def tZ (s:Server) (m:aw) (i j k:Nat):Server:=
 {eb s m.slot with aN:=(eb s m.slot).aN.set m.slot.toNat ⟨m.bU,1⟩,ar:=jb (eb s m.slot).ar (m.ar.take i),waits:=jb (eb s m.slot).waits (m.waits.take j),aE:=(m.aE.take k).foldl ek (eb s m.slot).aE}
def BF (s:Server) (m:aw) {i j k:Nat} (hi:m.ar.length<=i) (hj:m.waits.length<=j) (hk:m.aE.length<=k):tZ s m i j k=qV s m:=by
 unfold tZ qV;rw[List.take_of_length_le hi,List.take_of_length_le hj,List.take_of_length_le hk]
def lW (s:Server) (l:List an):List aw:=g7 s s.aE.length++l.map (kt s)
def NP (s:Server) (l:List an) (d:an):lW s l++[kt s d]=lW s (l++[d]):=by unfold lW;simp
def NQ {s:Server} {k:Nat} (h:k=s.aE.length):g7 s k=lW s (lr s 0):=by
 subst h;unfold lW;rw[show lr s 0=[] from rfl];simp
def Xx (s:Server) (slot:Int) (hg:bA s):
 Fn prog 279 [s.av,AV.int slot] (AV.c6 [(dT s slot).1.av,(dT s slot).2.1.av,AV.bool (dT s slot).2.2]):=by
 refine Fn.go 59 func279 ntmps279 (λW I a U=>?_);have al:=iL.2 hg;have cK:=hg.ok;have h3:=hg.aN;have e9:∀x,x=cI.cells ⟨(ab s.aN slot.toNat).bU+1,2⟩->(List.map cI.cells s.aN).set slot.toNat x=List.map cI.cells (oe s slot).aN:=λx h=>by rw[h];exact List.map_set.symm
 refine bw λI a w U=>?_;refine U.alloc rfl ck c9 λb4 I a w U=>U.alloc rfl cV dr λb5 I a w U=>?_;refine aF λI a w U=>?_;refine U.o (.c1 (rR ..)) λU=>?_;refine ao λI a w U=>?_;refine U.cd (λae=>?_) λae=>?_
 .exfalso;rw[al] at ae;cases ae;skip
 refine bw λI a w U=>?_;refine U.bz [] (Xn s hg.small) (ai .tt aB) rfl aO rfl λj7 I a w pP U=>?_;refine U.alloc rfl ck c9 λb7 I a w U=>?_;refine dp λI a w U=>?_;refine U.q .F (.cl (ic ..)) λU=>?_;refine dp λI a w U=>?_;refine U.q .F ((by first|exact dE fq dR .ag .ag (λhg=>by simp[aQ] at hg;omega)|exact eG fq dR .ag .ag (λhg=>by simp[aQ] at hg;omega)|exact eM fq dR .ag .ag (λhg=>by simp[aQ] at hg;omega))) λU=>?_;refine j3 λI a w U=>?_;refine U.q .F ((by first|exact dE fq dR .ag .ag (λhg=>by simp[aQ] at hg;omega)|exact eG fq dR .ag .ag (λhg=>by simp[aQ] at hg;omega)|exact eM fq dR .ag .ag (λhg=>by simp[aQ] at hg;omega))) λU=>?_;refine aV λI a w U=>?_;refine U.cd (λah=>?_) λah=>?_
 .rw[LI] at ah;replace ah:=nt ah;obtain⟨I,U⟩:=U.fu 2 2 3;refine bw λI a w U=>?_;refine U.o (.bd dr aT.nil) λU=>?_;refine aM λI a w U=>?_;refine U.ret rfl (.cons (.sx 0) (.cons (.sx 1) (.cons (.t rfl) aX.nil))) ?_;exact(by unfold dT;rw[ah];rfl)
 rw[LI] at ah;replace ah:=nf ah;have Xy:=ye ah;have Xz:=tM.1 (Bh hg (i:=slot.toNat) om);have ua:=BD hg ah;refine zt ?_;obtain⟨ra,aiw,yE⟩:=U.gv 2 rfl mR;subst yE;refine U.dt 12 ?_;simp only[TD];refine mo ?_;refine .o (.bd mr (.k (.k aT.nil))) ?_;refine .o (fj fq dR .tt .tt (λ_=>by simp only[List.length_map];omega)) ?_;refine .nil ?_;intro I a w U;refine U.jf 2 dR .tt .tt rfl (by exact dL om) rfl rfl λa w U=>?_;refine zt ?_;rw[e9] at U;rotate_left
 .rfl
 obtain⟨I,U⟩:=U.fu 2 2 3;refine U.dt 4 ?_;simp only[TD];refine dw ?_;refine .o (cq (LZ (oe s slot) slot ua.ar ua.waits hg.site ua.aN om (gZ hg.aE)) (ai (.t rfl) (ai (.t rfl) aB))) ?_;refine .nil ?_;intro I a w U;refine aM λI a w U=>?_;refine U.ret rfl (.cons (.sx 0) (.cons (.sx 1) (.cons (.t rfl) aX.nil))) ?_;exact(by unfold dT;rw[ah];rfl)
def NR (s:Server) (m:aw) (x:Bool):((((!decide ((eb s m.slot).ar.length+m.ar.length<=80))||!decide ((eb s m.slot).waits.length+m.waits.length<=80))||decide (80<((eb s m.slot).aE.length:Int)+m.aE.length))||!x)=!(qO s m&&x):=by
 have e:decide (80<((eb s m.slot).aE.length:Int)+m.aE.length)=!decide ((eb s m.slot).aE.length+m.aE.length<=80):=by rw[Bool.eq_iff_iff];simp;omega
 unfold qO;rw[e];simp
def dQ.lens {q:Call} {t:Int} (h:dQ q t):1<=q.keys.length/\q.keys.length<=3/\q.ctx.length<=6/\q.aL.length<=6/\q.az.length<=3/\∀a∈q.az,a.bF.aS.length<=6:=by
 have h1:=h.keys;have hu:jK q.keys=true:=by simp only[ie,Bool.and_eq_true] at h1;exact h1.1
 have h2:1<=q.keys.length/\q.keys.length<=3:=by
  simp only[ie,Bool.and_eq_true,Bool.or_eq_true,aQ,beq_iff_eq,decide_eq_true_eq] at h1;omega
 have h3:q.az.length<=q.keys.length:=FH hu (Lo.2 ⟨h.has,h.sorted,h.cH⟩);exact⟨h2.1,h2.2,dY h.ctx,dY h.aL,by omega,λa ha=>dY (qU (h.cH a ha))⟩
def dQ.small {q:Call} {t:Int} (h:dQ q t):vL q:=by
 have:=h.lens;exact⟨by omega,by omega,by omega,λa ha=>(by have:=this.2.2.2.2.2 a ha;omega),by omega⟩
def NS {q:Call} {a:Answer} {t:Int} {k:Nat} (h:q.aL.length<=k):np q a t=if(nu q a k=[]/\q.aL≠[]) then{q with az:=nB q a k,aL:=nu q a k,end_:=t} else{q with az:=nB q a k,aL:=nu q a k}:=by
 unfold np nu nB;rw[List.take_of_length_le h];by_cases hm:a.bF.bG∈q.aL
 .rw[if_pos hm,if_pos hm];have bH:q.aL≠[]:=λe=>by rw[e] at hm;simp at hm
  dsimp only;by_cases he:(q.aL.filter λd=>decide (d≠a.bF.bG))=[]
  .rw[if_pos he,if_pos ⟨he,bH⟩]
  rw[if_neg he,if_neg λhh=>he hh.1]
 rw[if_neg hm,if_neg hm];have hf:(q.aL.filter λd=>decide (d≠a.bF.bG))=q.aL:=by
  rw[List.filter_eq_self];intro d hd;simp;rintro rfl;exact hm hd
 rw[hf,if_neg λhh=>hh.2 hh.1]
def XA (q:Call) (n:Value) (hg:∀y∈q.az,dH y=true) (hl:q.az.length<=1048576):
 Fn prog 331 [q.wu n] (bf (eL q)):=by
 refine Fn.go 23 func331 ntmps331 (λW I a U=>?_);refine aq λI a w U=>?_;refine U.l0 λb5 I a w U=>?_;obtain⟨I,U⟩:=U.fr 0 5;have U:=U.drop 0;refine aq λI a w U=>?_;refine St.lo (σ:=Nat) (run 2 3 (run 16 6 [])) ⟨λk=>[(4,AV.int k),(3,bf ((q.az.take k).foldl ll []))],λk=>[],λk=>k<=q.az.length⟩ (λk=>q.az.length-k) 0 U ?aH ?bx;case aH=>exact Nat.zero_le _
 rintro k I a w al U;have hk:k<=q.az.length:=al;refine cn λI a w U=>?_;refine cz (λae=>?_) λae=>?_
 .refine j3 λI a w U=>?_;refine U.o (.cl (FK _ _ (rf (acc:=[]) rfl (wi hg k)).1 (qU (hg _ (bB ae))))) λU=>?_;refine aV λI a w U=>?_;refine U.again (k+1) ?ik ?il ef ?im (by repeat(first|exact Env.le_rfl|refine Env.iB rfl ?_));case ik=>omega
  case il=>exact ae
  case im=>exact(Env.dM rfl ef (Env.dM rfl (by exact congrArg bf (by rw[wh ae];rfl)) Env.le_nil))
 refine zt ?_;refine dh ?_;exact congrArg bf (by rw[List.take_of_length_le om];rfl)
def XB (q:Call) (n:Value) (t:Int) (hg:∀y∈q.az,dH y=true) (hl:q.az.length<=1048576) (hn:q.aL.length<=1048576):
 fQ prog 356 [q.wu n,AV.int t] [Own.row n 125 3 (q.aL.map an.cells)] [] (lR {q with aL:=q.aL++ka q} t).av:=by
 refine bJ.intro 54 func356 rfl ntmps356 rfl aP (λW I a U=>?_);have gA:bP (eL q)=true:=(rf (l:=q.az) (acc:=[]) rfl hg).1;refine sr<|U.box rfl .tt λb2 I a w U=>U.alloc rfl ei jj λb4 I a w U=>?_;refine bw λI a w U=>?_;refine U.o (.c1 (XA q n hg hl)) λU=>?_;refine aq λI a w U=>?_;refine St.lo (σ:=Nat×Value) (run 2 6 (run 37 10 [])) ⟨λ⟨k,v⟩=>[(6,AV.int k)],λ⟨k,v⟩=>[Own.row v 125 3 ((lV q k).map an.cells),Own.box b2 45 [AV.int q.aA,AV.int q.num,AV.int q.kind,gJ q.keys,AV.int q.val,bf q.ctx,AV.int q.bq,AV.int q.end_,AV.bool q.over,AV.int q.ax.time,AV.int q.ax.site,nL q.az,AV.val v],Own.box b4 45 [AV.val (.int .i64 0),AV.val (.int .i64 0),AV.val (.int .i64 0),AV.rows 1 [],AV.val (.int .i64 0),AV.rows 3 [],AV.val (.int .i64 0),AV.val (.int .i64 0),AV.val (.bool false),AV.val (.int .i64 0),AV.val (.int .i64 0),AV.rows 9 [],AV.rows 3 []]],λ⟨k,v⟩=>k<=q.az.length⟩ (λ⟨k,v⟩=>q.az.length-k) (0,n) U ?aH ?bx;case aH=>exact Nat.zero_le _
 rintro⟨k,v⟩ I a w al U;have hk:k<=q.az.length:=al;dsimp only at U;refine cn λI a w U=>?_;refine cz (λae=>?_) λae=>?_
 .refine fm λI a w U=>?_;refine U.o (.cl (WA _ _ gA)) λU=>?_;refine U.alloc rfl iH gx λb7 I a w U=>?_;refine ao λI a w U=>?_;obtain⟨I,U⟩:=U.fb 3 7;refine U.dk ?_;refine mn ?_;refine .o (.c2 (tj ..))<|.nil ?_;intro I a w U;refine ba ?_;refine U.cd (λah=>?_) λah=>?_
  .refine U.dt 11 ?_;simp only[TD];refine vi ?_;refine .o (.bd ez (.k (.t aT.nil))) ?_;refine .o (.li [an.cells ⟨(ab q.az k).key,cv (eL q) (ab q.az k).key⟩] eJ (.u .nil)) ?_;refine .nil ?_;intro I a w U;refine U.append 0 rfl c4 cx rfl .tt .r rfl (by have:=ND q k hk;simp;omega) λEy a w U=>?_;refine U.o .fv λU=>?_;try have aix:=U.dK 0 rfl
   refine ao λI a w U=>?_;rw[bN,W2 ae ah] at U;refine aM λI a w U=>?_;have U:=U.drop 3;exact U.ag (k+1,Ey) (ae)
  refine aM λI a w U=>?_;have U:=U.drop 3;rw[W3 ae (by rw[ah];simp)] at U;exact U.ag (k+1,v) (ae)
 refine wp_exit<|cm<|cm<|dS<|ba<|wp_seq<|wp_seq ?_;rw[W4 hk om] at U;refine aF λI a w U=>?_;refine U.o (jY 0 c4 .tt rfl) λU=>?_;refine ao λI a w U=>?_;refine cz (λaj=>?_) λaj=>?_
 .refine aM λI a w U=>?_;obtain⟨I,U⟩:=U.fu 0 12 1;refine aq λI a w U=>?_;refine U.bD () [] rfl (.cons (.sx 2) .nil) trivial rfl ?_;exact(by unfold lR;rw[if_pos (by apply List.length_eq_zero_iff.1;rw[List.length_map] at aj;exact Int.ofNat_eq_zero.1 aj)];rfl)
 refine wp_skip<|ba<|wp_seq ?_;obtain⟨I,U⟩:=U.fu 0 12 1;refine aq λI a w U=>?_;refine U.bD () [] rfl (.cons (.sx 2) .nil) trivial rfl ?_;exact(by unfold lR;rw[if_neg (λe=>aj (by rw[show q.aL++ka q=[] from e];rfl))];rfl)
def XC (q:Call) (g:Value) (x:Answer) (t t0:Int) (h:dQ q t0) (tY:x.bF.key=x.key):
 fQ prog 329 [q.Vf g,x.av,AV.int t] [Own.row g 56 9 (q.az.map Answer.cells)] [] (np q x t).av:=by
 refine bJ.intro 68 func329 rfl ntmps329 rfl aP (λW I a U=>?_);have lX:=h.lens;refine sr<|U.box rfl .tt λb3 I a w U=>U.o .bp λU=>U.alloc rfl ei jj λb6 I a w U=>?_;refine zt ?_;refine U.l0 λb9 I a w U=>?_;refine aq λI a w U=>?_;refine St.lo (σ:=Nat×Value) (run 2 7 (run 44 10 [])) ⟨λ⟨k,v⟩=>[(8,AV.int k),(7,AV.val v)],λ⟨k,v⟩=>[Own.row g 56 9 ((nB q x k).map Answer.cells),Own.box b3 45 [AV.int q.aA,AV.int q.num,AV.int q.kind,gJ q.keys,AV.int q.val,bf q.ctx,AV.int q.bq,AV.int q.end_,AV.bool q.over,AV.int q.ax.time,AV.int q.ax.site,AV.val g,bf q.aL],Own.box b6 45 [AV.val (.int .i64 0),AV.val (.int .i64 0),AV.val (.int .i64 0),AV.rows 1 [],AV.val (.int .i64 0),AV.rows 3 [],AV.val (.int .i64 0),AV.val (.int .i64 0),AV.val (.bool false),AV.val (.int .i64 0),AV.val (.int .i64 0),AV.rows 9 [],AV.rows 3 []],Own.row v 125 3 ((nu q x k).map an.cells)],λ⟨k,v⟩=>k<=q.aL.length⟩ (λ⟨k,v⟩=>q.aL.length-k) (0,.slice (some ⟨b9,0,none⟩) 0 0) U ?aH ?bx;case aH=>exact Nat.zero_le _
 rintro⟨k,v⟩ I a w al U;have hk:k<=q.aL.length:=al;dsimp only at U;refine cn λI a w U=>?_;refine cz (λae=>?_) λae=>?_
 .refine zt ?_;refine U.dk ?_;refine mq ?_;refine dw ?_;refine .q .T (lF [_,_] [_,_] mu rfl rfl .ag .ag) ?_;refine aW ?_;refine .nil ?_;intro I a w U;refine ba ?_;refine U.cd (λah=>?_) λah=>?_
  .rw[NF _ x tY,decide_eq_true_eq] at ah;have FO:=Vh h ae ah tY;obtain⟨gD,pH⟩:=wk FO;rw[W7 h.aL ae ah] at U;obtain⟨bg,NT,eg⟩:=U.gv 0 rfl mR;subst eg;refine wp_seq ?_;refine U.dt 8 ?_;simp only[TD];refine eP ?_;refine .o (JQ (cs:=[AV.int q.aA,AV.int q.num,AV.int q.kind,gJ q.keys,AV.int q.val,bf q.ctx,AV.int q.bq,AV.int q.end_,AV.bool q.over,AV.int q.ax.time,AV.int q.ax.site,.val (.slice (some ⟨bg,0,none⟩) (q.az.map Answer.cells).length NT),bf q.aL]) 0 11 (ai .tt (ai .tt aB)) rfl rfl (Bq q x.key) (λ_ _ _ h=>h)) ?_;refine aW ?_;refine .o (fj gy eI .tt .tt (λ_=>by simp only[List.length_map];omega)) ?_;refine .nil ?_;intro I a w U;refine U.jf 0 eI .tt .tt rfl (by exact dL om) rfl rfl λa w U=>?_;refine zt ?_;refine aM λI a w U=>?_;have e9:∀y,y=x.cells->(List.map Answer.cells q.az).set (cE q x.key).toNat y=List.map Answer.cells (nB q x (k+1)):=λy hy=>by rw[hy,W5 ae ah,List.map_set]
   rw[e9,Wn ae ah] at U;rotate_left
   .rfl
   exact U.ag (k+1,v) (ae)
  rw[NF _ x tY,decide_eq_false_iff_not] at ah;refine dp λI a w U=>?_;refine U.o (.li [(ab q.aL k).cells] eJ (.u .nil)) λU=>?_;refine U.append 3 rfl c4 cx rfl .tt .r rfl (by have:=Wp q x k;simp;omega) λXD a w U=>?_;rw[bN,Wo ae ah,W6 ae ah] at U;refine aV λI a w U=>?_;exact U.ag (k+1,XD) (ae)
 refine zt ?_;refine U.m λU=>U.o (jY 3 c4 .tt rfl) λU=>?_;refine ib λI a w U=>?_;refine U.cd (λaj=>?_) λaj=>?_
 .rw[MK,decide_eq_true_eq] at aj;refine aM λI a w U=>?_;obtain⟨I,U⟩:=U.fr 3 7;refine aF λI a w U=>?_;try have XE:=U.dK 3 rfl
  refine ao λI a w U=>?_;obtain⟨I,U⟩:=U.fu 0 11 1;refine aq λI a w U=>?_;refine U.bD () [] rfl (.cons (.sx 2) .nil) trivial rfl ?_;exact(by rw[NS (k:=k) om,if_pos aj];rfl)
 rw[MK,decide_eq_false_iff_not] at aj;refine wp_skip<|ba<|wp_seq ?_;obtain⟨I,U⟩:=U.fr 3 7;refine aF λI a w U=>?_;try have XE:=U.dK 3 rfl
 refine ao λI a w U=>?_;obtain⟨I,U⟩:=U.fu 0 11 1;refine aq λI a w U=>?_;refine U.bD () [] rfl (.cons (.sx 2) .nil) trivial rfl ?_;exact(by rw[NS (k:=k) om,if_neg aj];rfl)
def XF {a:Answer} (h:dH a=true):c8 a.bF.ax gM=false:=by
 cases hy:a.yes
 .rw[Bp h hy];rfl
 have:=(yt h hy).1;simp only[gU,Bool.and_eq_true] at this;have U:=this.2;simp[c7,aQ,aD.bG] at U;rw[Bool.eq_false_iff];intro e;simp[c8,gM] at e;have h1:=of_decide_eq_true U.1.1;rcases e with e|⟨e,_⟩
 .have:=of_decide_eq_true e;omega
 omega
def XG {a:Answer} {s:cA} (h:dH a=true) (U:qN s):(!dW s&&my a s)=c8 a.bF.ax s:=by
 rcases U with rfl|U
 .rw[XF h];rfl
 rw[LR h U];have:dW s=false:=by simp[c7,aQ] at U;simp[dW];intro e;rw[e] at U;simp at U
 rw[this];rfl
def XH (l:List Call) (aA:Int) {k:Nat} (hk:k<=l.length) (h:l.length<=k):qP l aA k=qX l aA:=by
 have key:∀k,k<=l.length->qP l aA k=(l.take k).foldl (λn q=>if q.aA=aA then q.num else n) 0:=by
  intro k;induction k with
  |zero=>intro _;simp[qP]
  |succ k ih=>intro h;rw[dO om,List.foldl_append];show(if _ then _ else qP l aA k)=_;rw[ih om];rfl
 unfold qX;rw[key k hk,List.take_of_length_le h]
def FP {w:aJ} {e:Ev} (h:(eN e.aA&&decide (cw w.calls e.aA<0))=false):kb w e=(w,false):=by unfold kb;rw[h];rfl
def yF {w:aJ} {e:Ev} (h:(eN e.aA&&decide (cw w.calls e.aA<0))=true):kb w e=({w with calls:=w.calls++[oE w e]},iI (w.calls++[oE w e]) w.time):=by unfold kb;rw[h];rfl
def cr.lens {w:aJ} (h:cr w):w.calls.length<=20/\∀q∈w.calls,q.az.length<=3:=⟨(tu.1 h.calls).1,λq hq=>by
 obtain⟨k,hk,rfl⟩:=iz hq;exact(h.call hk).lens.2.2.2.2.1⟩
def cW (br:Nat) (code:List UInt8) (p n:Int) (hp:0<=p/\p<=1099511627775) (hb:code.length<=1099511627776):
 fQ prog 54 [AV.val (.pointer (some ⟨br,0,none⟩)),AV.int n] [Own.box br 147 [cy code,AV.int (p)]] [Own.box br 147 [cy code,AV.int (p+1)]] (AV.int (bE code p n)):=by
 refine bJ.intro 99 func54 rfl ntmps54 rfl aP (λW I a U=>?_);refine D3 λI a w U=>?_;refine U.cd (λae=>?_) λae=>?_
 .refine ao λI a w U=>?_;refine U.bD () [0] rfl (.cons (.t rfl) .nil) trivial rfl ?_;exact congrArg AV.int (Ws ae)
 replace ae:=V0 ae;refine Ad λI a w U=>?_;refine cz (λah=>?_) λah=>?_
 .refine fm λI a w U=>?_;refine U.o (Dt aP nP .tt (λ_=>by have y1:=(ab code (p+1-1).toNat).toNat_lt;omega)) λU=>?_;refine U.m λU=>?_;refine U.o (rC .tt .tt (λ_=>by have y1:=(ab code (p+1-1).toNat).toNat_lt;omega)) λU=>?_;refine ao λI a w U=>?_;refine U.bD () [0] rfl (.cons (.t rfl) .nil) trivial rfl<|congrArg AV.int ?_;unfold bE;rw[if_neg ae,if_pos om,Int.add_sub_cancel];rfl
 refine wp_skip<|ba<|wp_seq<|U.dk ?_;refine mo ?_;refine .o (rC .tt .tt (λ_=>by omega)) ?_;refine .o ((by first|exact dE tf te .tt .tt (λ_=>by have h9:=Int.emod_nonneg (p+1-1) (show(code.length:Int)≠0 by omega);have h8:=Int.emod_lt_of_pos (p+1-1) (show(0:Int)<code.length by omega);omega)|exact eG tf te .tt .tt (λ_=>by have h9:=Int.emod_nonneg (p+1-1) (show(code.length:Int)≠0 by omega);have h8:=Int.emod_lt_of_pos (p+1-1) (show(0:Int)<code.length by omega);omega)|exact eM tf te .tt .tt (λ_=>by have h9:=Int.emod_nonneg (p+1-1) (show(code.length:Int)≠0 by omega);have h8:=Int.emod_lt_of_pos (p+1-1) (show(0:Int)<code.length by omega);omega))) ?_;refine aW ?_;refine .o (Dt aP nP .tt (λ_=>by have y1:=(ab code ((p+1-1)%(code.length:Int)).toNat).toNat_lt;omega)) ?_;refine .o (mS .tt .c (λ_=>by have y1:=lS code ((p+1-1)%code.length);have y2:=lT code ((p+1-1)%code.length);have y3:=lS code (((p+1-1)*7+3)%code.length);have y4:=lT code (((p+1-1)*7+3)%code.length);have y5:=tT (k:=p+1-1) (m:=code.length) om om;unfold nv at y1 y2 y3 y4;omega)) ?_;refine eP ?_;refine .o (mS .tt .c (λ_=>by omega)) ?_;refine gw ?_;refine .o (rC .tt .tt (λ_=>by omega)) ?_;refine .o ((by first|exact dE tf te .tt .tt (λ_=>by have h9:=Int.emod_nonneg ((p+1-1)*7+3) (show(code.length:Int)≠0 by omega);have h8:=Int.emod_lt_of_pos ((p+1-1)*7+3) (show(0:Int)<code.length by omega);omega)|exact eG tf te .tt .tt (λ_=>by have h9:=Int.emod_nonneg ((p+1-1)*7+3) (show(code.length:Int)≠0 by omega);have h8:=Int.emod_lt_of_pos ((p+1-1)*7+3) (show(0:Int)<code.length by omega);omega)|exact eM tf te .tt .tt (λ_=>by have h9:=Int.emod_nonneg ((p+1-1)*7+3) (show(code.length:Int)≠0 by omega);have h8:=Int.emod_lt_of_pos ((p+1-1)*7+3) (show(0:Int)<code.length by omega);omega))) ?_;refine aW ?_;refine .o (Dt aP nP .tt (λ_=>by have y1:=(ab code (((p+1-1)*7+3)%(code.length:Int)).toNat).toNat_lt;omega)) ?_;refine .o (mS .tt .c (λ_=>by have y1:=lS code ((p+1-1)%code.length);have y2:=lT code ((p+1-1)%code.length);have y3:=lS code (((p+1-1)*7+3)%code.length);have y4:=lT code (((p+1-1)*7+3)%code.length);have y5:=tT (k:=p+1-1) (m:=code.length) om om;unfold nv at y1 y2 y3 y4;omega)) ?_;refine .o (jW .tt .tt (λ_=>by have y1:=lS code ((p+1-1)%code.length);have y2:=lT code ((p+1-1)%code.length);have y3:=lS code (((p+1-1)*7+3)%code.length);have y4:=lT code (((p+1-1)*7+3)%code.length);have y5:=tT (k:=p+1-1) (m:=code.length) om om;unfold nv at y1 y2 y3 y4;omega)) ?_;refine aW ?_;refine .o (mS .tt .c (λ_=>by omega)) ?_;refine .o (jW .tt .tt (λ_=>by have y1:=lS code ((p+1-1)%code.length);have y2:=lT code ((p+1-1)%code.length);have y3:=lS code (((p+1-1)*7+3)%code.length);have y4:=lT code (((p+1-1)*7+3)%code.length);have y5:=tT (k:=p+1-1) (m:=code.length) om om;unfold nv at y1 y2 y3 y4;omega)) ?_;refine gw ?_;refine .o (uV .tt .tt (λ_=>by omega)) ?_;refine .o (mS .tt .c (λ_=>by have y1:=lS code ((p+1-1)%code.length);have y2:=lT code ((p+1-1)%code.length);have y3:=lS code (((p+1-1)*7+3)%code.length);have y4:=lT code (((p+1-1)*7+3)%code.length);have y5:=tT (k:=p+1-1) (m:=code.length) om om;unfold nv at y1 y2 y3 y4;omega)) ?_;refine .o (jW .tt .tt (λ_=>by have y1:=lS code ((p+1-1)%code.length);have y2:=lT code ((p+1-1)%code.length);have y3:=lS code (((p+1-1)*7+3)%code.length);have y4:=lT code (((p+1-1)*7+3)%code.length);have y5:=tT (k:=p+1-1) (m:=code.length) om om;unfold nv at y1 y2 y3 y4;omega)) ?_;refine aW ?_;refine .nil ?_;intro I a w U;have rH:=Wr (bs:=code) (k:=p) hp.1 om om;rw[Int.add_sub_cancel] at U;change St _ _ _ ((6,AV.int (tQ code p))::_) _ _ at U;generalize hX:tQ code p=X at U rH;refine aF λI a w U=>?_;refine U.o (uV .tt .c (λ_=>by omega)) λU=>?_;refine U.o (JT .tt .tt (λ_=>by omega)) λU=>?_;refine bc λI a w U=>?_;refine U.o (rC .tt .tt (λ_=>by have:=JR (m:=X) (n:=X/64);have:=JS (m:=X) (n:=X/64) om om;omega)) λU=>?_;refine ao λI a w U=>?_;refine U.bD () [0] rfl (.cons (.t rfl) .nil) trivial rfl<|congrArg AV.int ?_;unfold bE;rw[if_neg ae,if_neg om,hX]
def eT (br:Nat) (code:List UInt8) (p n:Int) (hp:0<=p/\p<=1099511627775) (hb:code.length<=1099511627776):bJ prog 54 [AV.val (.pointer (some ⟨br,0,none⟩)),AV.int n] [Own.box br 147 [cy code,AV.int (p)]] (λr:Int×Int=>0<=r.1/\(0<n->r.1<n)/\r.2=p+1) (λr=>[Own.box br 147 [cy code,AV.int (r.2)]]) (λr=>AV.int r.1):=
 bJ.conv (cW br code p n hp hb) λ_ _=>⟨(bE code p n,p+1),⟨gB code p n,λh=>(iq code p h).2,rfl⟩,rfl,rfl⟩
def yG (br:Nat) (code:List UInt8) (p:Int) (hp:0<=p/\p<=1099511000000) (aR:code.length<=1099511627776):
 bJ prog 163 [AV.val (.pointer (some ⟨br,0,none⟩))] [Own.box br 147 [cy code,AV.int (p)]] (λr:cA×Int=>p<=r.2/\r.2<=p+4) (λr=>[Own.box br 147 [cy code,AV.int (r.2)]]) (λr=>r.1.av):=by
 refine bJ.intro 29 func163 rfl ntmps163 rfl aP (λW I a U=>?_);refine sr<|U.alloc rfl iH gx λb2 I a w U=>?_;refine bw λI a w U=>?_;refine U.bz [0] (eT br code (p) (5) om aR) (ai .tt (ai .c aB)) rfl aO rfl λ⟨x5,q5⟩ I a w FQ U=>?_;replace FQ:0<=x5/\(0<(5:Int)->x5<(5))/\q5=p+1:=FQ;obtain⟨lo5,hi5,rfl⟩:=FQ;have U:=U.nf;refine aF λI a w U=>?_;refine U.bz [0] (eT br code (p+1) (4) om aR) (ai .tt (ai .c aB)) rfl aO rfl λ⟨x8,q8⟩ I a w ub U=>?_;replace ub:0<=x8/\(0<(4:Int)->x8<(4))/\q8=p+1+1:=ub;obtain⟨lo8,hi8,rfl⟩:=ub;have U:=U.nf;refine U.o (.bd gx (.k (.k aT.nil))) λU=>?_;refine U.alloc rfl iH gx λb3 I a w U=>?_;refine aF λI a w U=>?_;refine U.bz [0] (eT br code (p+1+1) (20) om aR) (ai .tt (ai .c aB)) rfl aO rfl λ⟨NU,XI⟩ I a w FR U=>?_;replace FR:0<=NU/\(0<(20:Int)->NU<(20))/\XI=p+1+1+1:=FR;obtain⟨aiC,aiD,rfl⟩:=FR;have U:=U.nf;refine aq λI a w U=>?_;refine cz (λae=>?_) λae=>?_
 .refine St.region ?_;refine U.o (.li (([-1,0,9999,10000]:List Int).map iP) ix (.v (.v (.v (.v .nil))))) λU=>?_;refine U.m λU=>?_;refine U.bz [0] (eT br code (p+1+1+1) (4) om aR) (ai .tt (ai .c aB)) rfl aO rfl λ⟨FT,XJ⟩ I a w sq U=>?_;replace sq:0<=FT/\(0<(4:Int)->FT<(4))/\XJ=p+1+1+1+1:=sq;obtain⟨aiE,aiF,rfl⟩:=sq;have U:=U.nf;refine U.o ((by first|exact dE cG cB .tt .tt (λ_=>by simp only[List.length_map,List.length_cons,List.length_nil];omega)|exact eG cG cB .tt .tt (λ_=>by simp only[List.length_map,List.length_cons,List.length_nil];omega)|exact eM cG cB .tt .tt (λ_=>by simp only[List.length_map,List.length_cons,List.length_nil];omega))) λU=>?_;refine cn λI a w U=>?_;refine U.bD (⟨ab ([-1,0,9999,10000]:List Int) FT.toNat,x8⟩,p+1+1+1+1) [0] rfl (.cons (.sx 1) .nil) (by dsimp only;omega) rfl rfl
 refine aq λI a w U=>?_;refine cz (λah=>?_) λah=>?_
 .refine St.region ?_;refine U.o (.li (([-1,4]:List Int).map iP) ix (.v (.v .nil))) λU=>?_;refine U.m λU=>?_;refine U.bz [0] (eT br code (p+1+1+1) (2) om aR) (ai .tt (ai .c aB)) rfl aO rfl λ⟨oG,XK⟩ I a w FU U=>?_;replace FU:0<=oG/\(0<(2:Int)->oG<(2))/\XK=p+1+1+1+1:=FU;obtain⟨NV,NX,rfl⟩:=FU;have U:=U.nf;refine U.o ((by first|exact dE cG cB .tt .tt (λ_=>by simp only[List.length_map,List.length_cons,List.length_nil];omega)|exact eG cG cB .tt .tt (λ_=>by simp only[List.length_map,List.length_cons,List.length_nil];omega)|exact eM cG cB .tt .tt (λ_=>by simp only[List.length_map,List.length_cons,List.length_nil];omega))) λU=>?_;refine cn λI a w U=>?_;refine U.bD (⟨1+x5,ab ([-1,4]:List Int) oG.toNat⟩,p+1+1+1+1) [0] rfl (.cons (.sx 1) .nil) (by dsimp only;omega) rfl rfl
 refine aq λI a w U=>?_;refine U.bD (⟨1+x5,x8⟩,p+1+1+1) [0] rfl (.cons (.sx 1) .nil) (by dsimp only;omega) rfl rfl
def NY (br:Nat) (code:List UInt8) (p:Int) (hp:0<=p/\p<=1099511000000) (aR:code.length<=1099511627776):
 bJ prog 242 [AV.val (.pointer (some ⟨br,0,none⟩))] [Own.box br 147 [cy code,AV.int (p)]] (λr:an×Int=>gU r.1=true/\r.2=p+3) (λr=>[Own.box br 147 [cy code,AV.int (r.2)]]) (λr=>r.1.av):=by
 refine bJ.intro 12 func242 rfl ntmps242 rfl aP (λW I a U=>?_);refine sr<|U.alloc rfl cx ez λb2 I a w U=>?_;refine bw λI a w U=>?_;refine U.bz [0] (eT br code (p) (6) om aR) (ai .tt (ai .c aB)) rfl aO rfl λ⟨x4,q4⟩ I a w FV U=>?_;replace FV:0<=x4/\(0<(6:Int)->x4<(6))/\q4=p+1:=FV;obtain⟨lo4,hi4,rfl⟩:=FV;have U:=U.nf;refine U.m λU=>?_;refine U.bz [0] (eT br code (p+1) (5) om aR) (ai .tt (ai .c aB)) rfl aO rfl λ⟨x6,q6⟩ I a w BG U=>?_;replace BG:0<=x6/\(0<(5:Int)->x6<(5))/\q6=p+1+1:=BG;obtain⟨lo6,hi6,rfl⟩:=BG;have U:=U.nf;refine aF λI a w U=>?_;refine U.bz [0] (eT br code (p+1+1) (4) om aR) (ai .tt (ai .c aB)) rfl aO rfl λ⟨x9,q9⟩ I a w lu U=>?_;replace lu:0<=x9/\(0<(4:Int)->x9<(4))/\q9=p+1+1+1:=lu;obtain⟨BH,BI,rfl⟩:=lu;have U:=U.nf;refine U.o (.bd gx (.k (.k aT.nil))) λU=>?_;refine U.o (.bd ez (.k (.t aT.nil))) λU=>?_;refine ao λI a w U=>?_;have hd:gU ⟨x4,⟨1+x6,x9⟩⟩=true:=by simp[gU,cY,c7,cQ,aQ];omega
 refine U.bD (⟨x4,⟨1+x6,x9⟩⟩,p+1+1+1) [0] rfl (.cons (.sx 1) .nil) ⟨hd,by dsimp only;omega⟩ rfl rfl
def Of {l:List Int} {k:Nat} (h:∀i,i<k->et cY mw l i=true):-1<=rW l k/\rW l k<=5:=by
 unfold rW;split
 .omega
 rename_i hk;have:=h (k-1) om;unfold et at this;rw[Bool.and_eq_true,MZ] at this;omega
def Og {l:List Int} {k:Nat} (h:∀i,i<k->et cY mw l i=true):aQ (ab l k) (rW l k+1) 5=et cY mw l k:=by
 have:=Of h;unfold et rW at*;by_cases hk:k=0
 .subst hk;simp[cY,aQ]
 simp only[hk,if_false] at this⊢;rw[Bool.eq_iff_iff];simp[cY,aQ,mw];omega
def Ym {c:Call} (h:jK c.keys=true) (i:Nat):rX c i=m8 c i:=by
 unfold rX m8;cases h1:et (λa=>gz c.keys a.key) fS c.az i
 .simp
 have h2:gz c.keys (ab c.az i).key=true:=by unfold et at h1;rw[Bool.and_eq_true] at h1;exact h1.1
 have:=v5 h (yl.1 h2);unfold tC dH;cases(ab c.az i).yes<;>simp[this]
def Yn {c:Call} (h:lM c=true) (hd:bP c.aL=true) {i:Nat} (hi:i<c.aL.length):sf c i=nY c i:=by
 unfold sf nY;by_cases hg:0<=cE c (ab c.aL i).key
 .have h2:=nV hd (bB hi);simp only[gU,Bool.and_eq_true] at h2;rw[LR (E8 h (sg hg)).1 h2.2]
 simp[hg]
def Oh:∀{a b:List an} {last:Int},dm last a=true->dm last b=true->(∀key,cv a key=cv b key)->a=b
 |[],[],_,_,_,_=>rfl
 |[],e::r,_,_,h,he=>by
  have:=he e.key;rw[j9,if_pos rfl] at this;simp only[dm,Bool.and_eq_true] at h;have h1:=rY h.1.2;rw[<-this] at h1;simp[cv] at h1
 |e::r,[],_,h,_,he=>by
  have:=he e.key;rw[j9,if_pos rfl] at this;simp only[dm,Bool.and_eq_true] at h;have h1:=rY h.1.2;rw[this] at h1;simp[cv] at h1
 |e::r,e'::r',last,h,h',he=>by
  have g:=h;have g':=h';simp only[dm,Bool.and_eq_true] at h h';have bH:∀{e e':an} {r r':List an},c7 e.ax=true->dm e'.key r'=true->(∀key,cv (e::r) key=cv (e'::r') key)->¬e.key<e'.key:=λ{e e' r r'} U hr he cj=>by
   have:=he e.key;rw[j9,if_pos rfl,j9,if_neg om,wg hr om] at this;have h1:=rY U;rw[this] at h1;simp at h1
  have hk:e.key=e'.key:=by
   have h1:=bH h.1.2 h'.2 he;have h2:=bH h'.1.2 h.2 λkey=>(he key).symm;omega
  have bX:e.ax=e'.ax:=by
   have:=he e.key;rwa[j9,if_pos rfl,j9,if_pos hk.symm] at this
  have hr:r=r':=by
   rw[<-hk] at h';refine Oh h.2 h'.2 λkey=>?_;have:=he key;rw[j9,j9,<-hk] at this;by_cases Oi:e.key=key
   .rw[wg h.2 om,wg h'.2 om]
   rwa[if_neg Oi,if_neg Oi] at this
  obtain⟨k1,s1⟩:=e;obtain⟨k2,s2⟩:=e';simp at hk bX;rw[hk,bX,hr]
def g8 (s:Server) (m:aw):Server×List aw:=
 if(m.aY==eS s.site)&&decide (1<=m.bU) then
  if m.bU<=(ab s.aN m.slot.toNat).bU then(s,[mG s m])
  else if qO s m&&gL (qV s m) then(gW (qV s m),[mG s m]) else(s,[])
 else(s,[])
def kd (s:Server):List aw:=if s.up then(leaving s).map (λi:Nat=>gj s (i:Int))++(s.aE.map (jy s)).flatten++(yv s).map (kt s) else[]
def fH (w:aJ) (e:Ev):aJ×Bool:=
 let s:=ab w.aC e.at_.toNat
 if e.kind=7 then({w with aC:=w.aC.set e.at_.toNat (oh s)},!s.up)
 else if e.kind=6 then({w with aC:=w.aC.set e.at_.toNat (og s)},s.up)
 else if e.kind=8 then({w with au:=eC w.au (kd s)},s.up)
 else if ld s e.slot then({w with aC:=w.aC.set e.at_.toNat (oe s e.slot),au:=eC w.au [gj (oe s e.slot) e.slot]},true) else(w,false)
def F5 (u v:aD):pB u v=(r5 u v&&cT u.aS.length (Bd u v)):=by
 rw[Bool.eq_iff_iff,Bool.and_eq_true,iR];obtain⟨a1,⟨a2,a3⟩,a4,a5,a6,a7⟩:=u;obtain⟨b1,⟨b2,b3⟩,b4,b5,b6,b7⟩:=v;simp only[pB,r5,Bd,decide_eq_true_eq];constructor
 .intro h;simp at h;obtain⟨rfl,⟨rfl,rfl⟩,rfl,rfl,rfl,rfl⟩:=h;simp
 rintro⟨h1,h2⟩;simp at h1 h2;have:a7=b7:=Vv om h2;simp[this];omega
def Oj (q:Call) (k:Nat):(!tC (ab q.az k)||!gz q.keys (ab q.az k).key||(decide (0<(k:Int))&&decide ((ab q.az k).key<=(ab q.az ((k:Int)-1).toNat).key)))=!rX q k:=by
 unfold rX;rw[Bool.or_assoc,E7];simp
def Yo {s:Server} (h:bA s) {d:an}:∀w∈jy s d,bQ w=true:=by
 have U:=Fj h.site;have key:∀k:Int,0<=k->k<=1->bQ {bW with kind:=5,aY:=s.site,to:=2-2*ct s.site+k,ar:=(ja s.ar d).toList}=true:=λk h1 h2=>
  qS ⟨by simp,by simp⟩ (nq h.site) (nq (mI.2 ⟨by simp;omega,by simp;omega⟩)) ⟨by simp[bW],by simp[bW]⟩ Fh yq ⟨by simp[bW],by simp[bW]⟩ pL ⟨by simp[bW],by simp[bW]⟩ ⟨by simp[bW],by simp[bW]⟩ (Mu λv hv=>gP h.ar v (Nd hv).1) nr tN
 unfold jy;split
 .intro w hw;rcases List.mem_cons.1 hw with rfl|hw
  .have:=key 0 om om;rwa[Int.add_zero] at this
  obtain rfl:w=_:=by simpa using hw
  exact key 1 om om
 intro w hw;simp at hw
def F6 {s:Server} (h:bA s):∀w∈kd s,bQ w=true:=by
 unfold kd;split
 .intro w hw;rcases List.mem_append.1 hw with hw|hw
  .rcases List.mem_append.1 hw with hw|hw
   .obtain⟨i,hi,rfl⟩:=List.mem_map.1 hw;have:=Wd h hi;exact Fi h om om
   obtain⟨ws,h1,h2⟩:=List.mem_flatten.1 hw;obtain⟨d,_,rfl⟩:=List.mem_map.1 h1;exact Yo h w h2
  obtain⟨d,hd,rfl⟩:=List.mem_map.1 hw;exact Wc h (WL h d hd)
 intro w hw;simp at hw
def Yp (s:Server) (m:aw):(g8 s m).1.site=s.site:=by
 unfold g8;split
 .split
  .rfl
  split
  .exact v3 _
  rfl
 rfl
def Yq (s:Server) (d:an):
 Fn prog 348 [s.av,d.av] (AV.bool (gV s d)):=by
 refine Fn.go 9 func348 ntmps348 (λW I a U=>?_);refine bK λI a w U=>?_;refine U.o (mb (ai .tt aB)) λU=>?_;refine U.o (.cl (MR s.waits (ob d) _ (λv _=>Fn.val (LY v d)))) λU=>?_;refine bk ?_;exact bI (by unfold gV;rw[<-yd];simp)
def F7 (l:List an) (d:an) (h:l.length<=1048575):
 Fn prog 349 [bf l,d.av] (bf (ek l d)):=by
 refine Fn.go 31 func349 ntmps349 (λW I a U=>?_);refine bj λI a w U=>?_;refine U.o (.cl (yh ..)) λU=>?_;refine zt ?_;refine cz (λae=>?_) λae=>?_
 .refine bw λI a w U=>?_;refine U.o (cq (qQ l om) (ai .r aB)) λU=>?_;refine bk ?_;exact congrArg (AV.rows 3) (by unfold ek;rw[if_pos ae])
 refine ao λI a w U=>?_;refine St.lo (σ:=Nat) (5::(run 14 11 [])) ⟨λk=>[(5,AV.int k)],λk=>[],λk=>k<=l.length/\∀i,i<k->dF (ab l i) d=true⟩ (λk=>l.length-k) 0 U ?aH ?bx;case aH=>exact⟨Nat.zero_le _,λi hi=>by omega⟩
 rintro k I a w al U;obtain⟨hk,aU⟩:=al;refine wp_seq<|wp_seq<|U.dk ?_;refine mo ?_;refine .q .T (.cl (Ba ..)) ?_;refine aW ?_;refine .nil ?_;intro I a w U;refine ba ?_;refine cz (λah=>?_) λah=>?_
 .refine aM λI a w U=>?_;exact U.ag (k+1) (⟨by omega,λi h1=>by rcases Nat.lt_succ_iff_lt_or_eq.1 h1 with h|h;exact aU i h;rw[h];exact ah.2⟩)
 refine zt ?_;refine U.da 5 ?_;simp only[TD];refine aW ?_;refine fk.km (Be l om) (ai .r aB) ?_;refine cg ?_;refine .o (.li [d.cells] eJ (.u .nil)) ?_;refine .nil ?_;intro I a w U;obtain⟨ud,U⟩:=U.z5 (d:=26);refine U.dX [0] (VI _ (l.map an.cells) d.cells k (by rw[List.length_map];exact hk) gG (λr hr=>by obtain⟨u,_,rfl⟩:=List.mem_map.1 hr;rfl) rfl) (ai .tt (ai .tt (ai .tt aB))) rfl aO rfl λI a w U=>?_;refine bk ?_;exact congrArg (AV.rows 3) (by unfold ek;rw[if_neg om,<-Mz hk aU (λhl=>by rcases ah with h|h;omega;exact h) (MA ae),List.map_append,List.map_cons,List.map_take,List.map_drop])
def BM (l:List aD) (slot:Int) (h:l.length<=1048576) (hd:∀v∈l,v.aS.length<=1048576):
 Fn prog 325 [bV l,AV.int slot] (AV.c6 [bV (l.filter (eR slot)),bV (l.filter (λv=>!eR slot v))]):=by
 refine Fn.go 34 func325 ntmps325 (λW I a U=>?_);have U:=U.fC (sz:=7) 54;have U:=U.fC (sz:=7) 54;refine ib λI a w U=>?_;refine St.lo (σ:=Nat×Value×Value) (run 2 6 (9::(run 20 12 []))) ⟨λ⟨k,u,v⟩=>[(12,AV.int k),(6,AV.val u),(7,AV.val v)],λ⟨k,u,v⟩=>[Own.row u 54 7 (((l.take k).filter (eR slot)).map aD.cells),Own.row v 54 7 (((l.take k).filter (λv=>!eR slot v)).map aD.cells)],λ⟨k,u,v⟩=>k<=l.length⟩ (λ⟨k,u,v⟩=>l.length-k) (0,.slice none 0 0,.slice none 0 0) U ?aH ?bx;case aH=>exact Nat.zero_le _
 rintro⟨k,u,v⟩ I a w al U;have hk:k<=l.length:=al;have Le:=pF (eR slot) l k;have Lf:=pF (λv=>!eR slot v) l k;dsimp only at U;refine ao λI a w U=>?_;refine cz (λae=>?_) λae=>?_
 .refine aF λI a w U=>?_;refine U.alloc rfl bL dy λb9 I a w U=>?_;refine ao λI a w U=>?_;obtain⟨I,U⟩:=U.fb 2 9;refine aF λI a w U=>?_;refine U.o (.c1 (EO ..)) λU=>?_;refine aq λI a w U=>?_;refine U.cd (λah=>?_) λah=>?_
  .change(eR slot) (ab l k)=true at ah;refine aF λI a w U=>?_;refine U.o (.c1 (tK _ (hd _ (bB ae)))) λU=>?_;refine U.o (.li [(ab l k).cells] iy (.u .nil)) λU=>?_;refine U.ap 0 λtG a w U=>?_;rw[bN,<-lP (p:=(eR slot)) ae ah,show(l.take k).filter (λv=>!eR slot v)=(l.take (k+1)).filter (λv=>!eR slot v) from(lQ ae (by show(!_)=false;rw[ah];rfl)).symm] at U;refine aM λI a w U=>?_;have U:=U.drop 2;exact U.ag (k+1,tG,v) (ae)
  change(eR slot) (ab l k)=false at ah;refine aF λI a w U=>?_;refine U.o (.c1 (tK _ (hd _ (bB ae)))) λU=>?_;refine U.o (.li [(ab l k).cells] iy (.u .nil)) λU=>?_;refine U.ap 1 λv30 a w U=>?_;rw[bN,<-lP (p:=(λv=>!eR slot v)) ae (by show(!_)=true;rw[ah];rfl),show(l.take k).filter (eR slot)=(l.take (k+1)).filter (eR slot) from(lQ ae ah).symm] at U;refine aM λI a w U=>?_;have U:=U.drop 2;exact U.ag (k+1,u,v30) (ae)
 refine zt ?_;refine aV λI a w U=>?_;obtain⟨I,U⟩:=U.fr 0 4;obtain⟨I,U⟩:=U.fr 1 5;refine U.rt ?_;exact(by rw[List.take_of_length_le om];rfl)
def Yr (s:Server) (al:gL s=true):
 Fn prog 276 [s.av] ((oh s).av):=by
 refine Fn.go 12 func276 ntmps276 (λW I a U=>?_);have hp:=xQ al;refine bw λI a w U=>?_;refine U.alloc rfl ck c9 λb2 I a w U=>?_;refine bw λI a w U=>?_;refine U.o (.c1 (rR ..)) λU=>?_;refine ao λI a w U=>?_;refine U.cd (λae=>?_) λae=>?_
 .exfalso;rw[al] at ae;cases ae;skip
 refine bw λI a w U=>?_;refine U.o (cq (v8 s (by have:=sd hp.2.1;have:=sd hp.2.2.1;exact(EC al).small (by have:=gZ hp.2.2.2.1;omega))) (ai (.t rfl) aB)) λU=>?_;refine U.alloc rfl ck c9 λb3 I a w U=>?_;refine cn λI a w U=>?_;refine U.ret rfl (.cons (.sx 0) aX.nil) ?_;rfl
def Ys (s:Server) (m:aw) (al:dZ s) (ho:s.aE.length<=80) (hm:bQ m=true):
 Fn prog 312 [s.av,m.av] ((ny s m).av):=by
 refine Fn.go 57 func312 ntmps312 (λW I a U=>?_);have ot:=nU (Nc hm);have h3:=al.aN;have BN:=λh=>Nb (l:=s.aE) (d:=⟨m.key,m.ax⟩) h;refine sr<|U.box rfl .tt λb2 I a w U=>U.o .bp λU=>U.alloc rfl ck c9 λb4 I a w U=>?_;refine dp λI a w U=>?_;refine U.o (.bd ez (.k (.t aT.nil))) λU=>?_;refine U.o (.cl (xR s.aE ⟨m.key,m.ax⟩)) λU=>?_;refine ao λI a w U=>?_;refine U.dk ?_;refine cg ?_;refine .o (.c1 (px ..)) ?_;refine dq ?_;refine .q .F (.cl (nR ..)) ?_;refine cg ?_;refine .q .F (.cl (nR ..)) ?_;refine SH ?_;refine .q .F (.cl (rM ..)) ?_;refine eP ?_;refine .nil ?_;intro I a w U;refine ba ?_;refine U.cd (λae=>?_) λae=>?_
 .rw[MB s m] at ae;replace ae:=nt ae;refine aq λI a w U=>?_;refine U.ret rfl (.cons (.sx 1) aX.nil) ?_;exact(by unfold ny;rw[ae];rfl)
 rw[MB s m] at ae;replace ae:=nf ae;refine zt ?_;have U:=U.fP;refine U.db (rp 2 (([0],none)::rp 2 (([2],some (2,[48]))::([],none)::([0],none)::rp 3 [([2],some (2,[])),([],none),([0],some (0,[]))]))) aP aP rfl ?_;refine .o (qm c4 cx) ?_;refine aW ?_;refine .r [0] (.lb 0) ?_;refine aW ?_;refine .o (w8 c4 cx .r .tt (λ_=>by simp only[B] at ae;have h9:=BN om;simp only[List.length_map];omega)) ?_;refine aI.xt 2 rfl rfl c4 cx rfl .tt .r fK ?_;refine aW ?_;refine .r [0] (.lb 0) ?_;refine aW ?_;refine .o (jW .tt .c (λ_=>by simp only[B] at ae;have h9:=BN om;omega)) ?_;refine .o (w7 c4 cx .r .tt (λ_=>by simp only[B] at ae;have h9:=BN om;simp only[List.length_map];omega)) ?_;refine aI.zZ 2 rfl rfl c4 cx rfl .r fK ?_;refine aW ?_;refine aI.de (x:=AV.any) 0 (λF W0 I0 I γ a w Q U kk=>U.s1 0 λU=>kk _ _ _ U) ?_;refine .nil ?_;intro I a w U;rw[<-List.map_take,<-List.map_drop,<-List.map_append] at U;refine aq λI a w U=>?_;refine U.ret rfl (.cons (.sx 1) aX.nil) ?_;exact(by unfold ny;rw[ae];have h9:=BN (by simp only[B] at ae;omega);rw[show((gh s.aE ⟨m.key,m.ax⟩)+1).toNat=(gh s.aE ⟨m.key,m.ax⟩).toNat+1 by simp only[B] at ae;omega];rfl)
def Yt (s:Server) (m:aw) (al:dZ s) (h0:cQ s.site=true):
 Fn prog 314 [s.av,m.av] ((nk s m).av):=by
 refine Fn.go 37 func314 ntmps314 (λW I a U=>?_);have h8:=al.bn;refine sr<|U.box rfl .tt λb2 I a w U=>U.o .bp λU=>U.alloc rfl ck c9 λb4 I a w U=>?_;refine bj λI a w U=>?_;refine U.o (.bd ez (.k (.t aT.nil))) λU=>?_;refine U.alloc rfl cx ez λb5 I a w U=>?_;refine ao λI a w U=>?_;obtain⟨I,U⟩:=U.fb 2 5;refine U.dk ?_;refine dq ?_;refine .o (.c1 (vE _ h0)) ?_;refine dq ?_;refine .q .F (.cl (Lh s ⟨m.key,m.ax⟩)) ?_;refine mn ?_;refine .nil ?_;intro I a w U;refine ba ?_;refine U.cd (λae=>?_) λae=>?_
 .rw[Nj s m] at ae;replace ae:=nt ae;refine aq λI a w U=>?_;refine U.ret rfl (.cons (.sx 1) aX.nil) ?_;exact(by unfold nk;rw[ae];rfl)
 rw[Nj s m] at ae;replace ae:=nf ae;refine bc λI a w U=>?_;refine U.o (cq (Fu s.bn ⟨m.key,m.ax⟩ om) (ai .r (ai (.t rfl) aB))) λU=>?_;refine bc λI a w U=>?_;refine U.o (cq (vP {s with bn:=ek s.bn ⟨m.key,m.ax⟩} (al.LC (by simp only[B] at ae;omega))) (ai (.t rfl) aB)) λU=>?_;refine ao λI a w U=>?_;refine U.ret rfl (.cons (.sx 1) aX.nil) ?_;exact(by unfold nk;rw[ae];rfl)
def F8 {s:Server} {m:aw} (h:qO s m=true):(eb s m.slot).ar.length+m.ar.length<=80/\(eb s m.slot).waits.length+m.waits.length<=80/\(eb s m.slot).aE.length+m.aE.length<=80:=by
 unfold qO at h;simp only[Bool.and_eq_true,decide_eq_true_eq] at h;exact⟨h.1.1,h.1.2,h.2⟩
def Ol (s:Server) (slot:Int) (h:ou s):
 bJ prog 352 [s.av,AV.int slot] [] (λ_:Value=>True) (λv=>[Own.row v 97 2 (s.aN.map cI.cells)]) (eb s slot).vM:=by
 refine bJ.intro 33 func352 rfl ntmps352 rfl aP (λW I a U=>?_);obtain⟨h1,⟨h2,h3⟩,⟨h4,h5⟩,h6,h7⟩:=id h;refine bw λI a w U=>?_;refine U.alloc rfl ck c9 λb4 I a w U=>?_;refine bw λI a w U=>?_;refine U.bz [] (ym s h) (ai .tt aB) rfl aO rfl λ⟨vS,vV,vW,vO,vK⟩ I a w mM U=>?_;refine U.alloc rfl ck c9 λb5 I a w U=>?_;refine bj λI a w U=>?_;refine U.o (.cl (BM s.ar slot h2 h3)) λU=>?_;refine bj λI a w U=>?_;refine U.s1 6 λU=>?_;refine bc λI a w U=>?_;refine U.o (.cl (BM s.waits slot h4 h5)) λU=>?_;refine bj λI a w U=>?_;refine U.s1 6 λU=>?_;refine bc λI a w U=>?_;refine U.o (.cl (LF s.aE slot h6)) λU=>?_;refine bj λI a w U=>?_;refine U.s1 6 λU=>?_;refine nn<|wp_seq ?_;obtain⟨I,U⟩:=U.fu 5 6 6;refine aq λI a w U=>?_;refine U.bD vS [1] rfl (.cons (.sx 0) .nil) trivial rfl rfl
def Yu {l ds:List an} {k:Nat} (hn:l.length+ds.length<=80) (hk:k<ds.length):Fn prog 336 [bf ((ds.take k).foldl ek l),(ab ds k).av] (bf ((ds.take (k+1)).foldl ek l)):=by
 have h2:=LH l ds k;have:=Fu ((ds.take k).foldl ek l) (ab ds k) om;rwa[<-L3 hk] at this
def Yv {s:Server} {m:aw} (h:((m.aY==eS s.site)&&decide (1<=m.bU))=false):g8 s m=(s,[]):=by unfold g8;rw[h];rfl
def Om {s:Server} {m:aw} (h:((m.aY==eS s.site)&&decide (1<=m.bU))=true) (h2:m.bU<=(ab s.aN m.slot.toNat).bU):g8 s m=(s,[mG s m]):=by unfold g8;rw[h,if_pos rfl,if_pos h2]
def F9 {s:Server} {m:aw} (h:((m.aY==eS s.site)&&decide (1<=m.bU))=true) (h2:¬m.bU<=(ab s.aN m.slot.toNat).bU) (h3:(qO s m&&gL (qV s m))=false):g8 s m=(s,[]):=by unfold g8;rw[h,if_pos rfl,if_neg h2,h3];rfl
def On {s:Server} {m:aw} (h:((m.aY==eS s.site)&&decide (1<=m.bU))=true) (h2:¬m.bU<=(ab s.aN m.slot.toNat).bU) (h3:(qO s m&&gL (qV s m))=true):g8 s m=(gW (qV s m),[mG s m]):=by unfold g8;rw[h,if_pos rfl,if_neg h2,h3];rfl
def Yw (s:Server) (m:aw):(g8 s m).2.length<=1:=by
 unfold g8;split
 .split
  .simp
  split<;>simp
 simp
def Oo {s:Server} (hu:s.up=false):kd s=[]:=by unfold kd;rw[hu];rfl
def Yx {s:Server} {t:Int} {v:aD} (h:v.aS.length<=1048576):iY {bW with kind:=5,aY:=s.site,to:=t,ar:=[v]}:=⟨Nat.zero_le _,⟨by simp,λx hx=>by obtain rfl:=List.mem_singleton.1 hx;exact h⟩,⟨Nat.zero_le _,λ_ h=>by cases h⟩,Nat.zero_le _⟩
def pS (q:Call) (k:Nat):List aw:=nA q q.keys.length++((q.aL.take k).map λd=>jn q (tH d)).flatten
def Yy {q:Call} {k:Nat} (h:k=q.keys.length):nA q k=pS q 0:=by subst h;simp[pS]
def Oq {q:Call} {k:Nat} (h:k<q.aL.length):pS q k++jn q (tH (ab q.aL k))=pS q (k+1):=by
 unfold pS;rw[dO h,List.map_append,List.flatten_append,List.append_assoc];simp
def Ot (q:Call):∀k,k<=q.aL.length->(pS q k).length<=2*q.keys.length+2*k
 |0,_=>by have:=FD q q.keys.length (Nat.le_refl _);simp[pS];omega
 |k+1,h=>by
  have ih:=Ot q k om;rw[<-Oq om,List.length_append];show _+2<=_;omega
def Ou (key:Int):iY (tW key):=MI rfl rfl rfl rfl
def Ov (d:an):iY (tH d):=MI rfl rfl rfl rfl
def Yz {w:aJ} {e:Ev} (h:e.kind=7):fH w e=({w with aC:=w.aC.set e.at_.toNat (oh (ab w.aC e.at_.toNat))},!(ab w.aC e.at_.toNat).up):=by unfold fH;rw[if_pos h]
def YA {w:aJ} {e:Ev} (h:e.kind=6):fH w e=({w with aC:=w.aC.set e.at_.toNat (og (ab w.aC e.at_.toNat))},(ab w.aC e.at_.toNat).up):=by unfold fH;rw[if_neg om,if_pos h]
def YB {w:aJ} {e:Ev} (h:e.kind=8):fH w e=({w with au:=eC w.au (kd (ab w.aC e.at_.toNat))},(ab w.aC e.at_.toNat).up):=by unfold fH;rw[if_neg om,if_neg om,if_pos h]
def YC {w:aJ} {e:Ev} (h7:¬e.kind=7) (h6:¬e.kind=6) (h8:¬e.kind=8) (hm:(dT (ab w.aC e.at_.toNat) e.slot).2.2=true):fH w e=({w with aC:=w.aC.set e.at_.toNat (dT (ab w.aC e.at_.toNat) e.slot).1,au:=eC w.au [(dT (ab w.aC e.at_.toNat) e.slot).2.1]},(dT (ab w.aC e.at_.toNat) e.slot).2.2):=by
 unfold fH;rw[if_neg h7,if_neg h6,if_neg h8,if_pos (AS hm),EW (AS hm)]
def YD {w:aJ} {e:Ev} (h7:¬e.kind=7) (h6:¬e.kind=6) (h8:¬e.kind=8) (hm:(dT (ab w.aC e.at_.toNat) e.slot).2.2=false):fH w e=({w with aC:=w.aC.set e.at_.toNat (dT (ab w.aC e.at_.toNat) e.slot).1},(dT (ab w.aC e.at_.toNat) e.slot).2.2):=by
 unfold fH;rw[if_neg h7,if_neg h6,if_neg h8,if_neg (by rw[EV hm];simp),Vk (EV hm),Vj]
end Go.Proofs.YtldbakcpcfdlaaaGreat
