/- Part 19: contracts of functions, plain facts. -/
import Derived.Test.YtdanidpleofjgaaGreatP16
import Derived.Test.YtdanidpleofjgaaGreatP17
import Derived.Test.YtdanidpleofjgaaGreatP18
set_option linter.all false
set_option maxRecDepth 100000
set_option maxHeartbeats 4000000
namespace Go.Proofs.YtdanidpleofjgaaGreat
open Go Go.RowKit Tryz
attribute [local irreducible] wpList Code.wp Ok
def p8 (c:Call):Bool:=nA c&&de c.aO.length (qW c)&&(((c.aO.length:Int)==0)||pR c)
def mf (c:Call) (time:Int):Bool:=fC c.aq&&aS c.num 1 99&&iQ c&&aS c.val 0 9999&&bN c.ctx&&bN c.aO&&aS c.bE 1 time&&ld c.ar&&p8 c
def fR (c:Call) (time:Int):Bool:=mf c time&&yI c&&pd c time
def zl (l:List Call) (time:Int) (i:Nat):Bool:=fR (ab l i) time&&(decide (i=0)||decide ((ab l (i-1)).bE<(ab l i).bE))
def mZ (l:List Call) (time:Int) (i:Nat):Bool:=(zl l time i&&((ab l i).num==ga l (i+1) (ab l i).aq))&&de i λj=>!lM (ab l j) (ab l i)
def jJ (l:List Call) (time:Int):Bool:=de l.length (mZ l time)&&decide (l.length<=20)
def fS (w:aI):Bool:=pJ w&&de w.aw.length (qJ w)&&!hasB wN w.au&&!hasB wE w.seen&&jJ w.calls w.time
def BJ {a b:List ao} (ha:bN a=true) (hb:bN b=true) (key:Int):bL (iB a b) key=dA (bL a key) (bL b key):=by
 have Ga:∀d∈b,iP d=true:=λd hd=>p7 hb hd;have aao:∀{b:List ao} {last:Int} {a:List ao},bN a=true->dH last b=true->(∀d∈b,iP d=true)->bL (iB a b) key=dA (bL a key) (bL b key):=by
  intro b;induction b with
  |nil=>
   intro last a ha _ _
   show bL a key=dA (bL a key) fK
   rw[Br (tM ha key)]
  |cons d r ih=>
   intro last a ha hb aT
   have hd:=aT d bt
   have j0:=hd
   simp only[iP,Bool.and_eq_true] at j0
   simp only[dH,Bool.and_eq_true] at hb
   show bL (iB (eS a d) r) key=_
   rw[ih (wW ha hd) hb.2 λe he=>aT e (by simp[he]),Bs key ha j0.2,lq]
   split
   .rename_i hk
    have:bL r key=fK:=yK hb.2 om
    rw[this,Br]
    have h1:=tM ha key
    rcases h1 with h1|h1
    .rw[h1,pS (Or.inr j0.2)];exact Or.inr j0.2
    right
    unfold dA;split
    .exact j0.2
    exact h1
   rfl
 exact aao ha hb Ga
def El:∀{l:List Answer},(∀a∈l,dF a=true)->∀key,tD (j7 l key)
 |[],_,_=>Or.inl rfl
 |a::r,h,key=>O9 (tM (sk (h a bt)) key) (El (λb hb=>h b (by simp[hb])) key)
def sq:∀{l:List Answer} {acc:List ao},bN acc=true->(∀a∈l,dF a=true)->bN (l.foldl l4 acc)=true/\∀key,bL (l.foldl l4 acc) key=dA (bL acc key) (j7 l key)
 |[],acc,ha,_=>⟨ha,λkey=>by show bL acc key=dA (bL acc key) fK;rw[Br (tM ha key)]⟩
 |a::r,acc,ha,h=>by
  have hd:=sk (h a bt);have h1:bN (l4 acc a)=true:=wX ha λd j0=>p7 hd j0;have h2:=sq (l:=r) h1 λb hb=>h b (by simp[hb]);refine⟨h2.1,λkey=>?_⟩;show bL (r.foldl l4 (l4 acc a)) key=_;rw[h2.2 key];unfold l4;rw[BJ ha hd,H6];rfl
def zm:∀{l:List Answer} {acc:List ao},bN acc=true->(∀a∈l,dF a=true)->bN (l.foldl mH acc)=true/\∀key,bL (l.foldl mH acc) key=dA (bL acc key) (dA (j7 l key) (tE l key))
 |[],acc,ha,_=>⟨ha,λkey=>by show bL acc key=dA (bL acc key) (dA fK fK);rw[pS (Or.inl rfl),Br (tM ha key)]⟩
 |a::r,acc,ha,h=>by
  have hg:=h a bt;have hr:∀b∈r,dF b=true:=λb hb=>h b (by simp[hb]);cases hy:a.yes
  .have e:mH acc a=acc:=by unfold mH;rw[hy];simp
   have h2:=zm (l:=r) ha hr;rw[List.foldl_cons,e];refine⟨h2.1,λkey=>?_⟩;rw[h2.2 key];show _=dA _ (dA (dA (bL a.bm.aR key) (j7 r key)) (dA (if a.yes=true/\a.key=key then a.bm.ar else fK) (tE r key)));rw[if_neg (by rw[hy];simp),pS (Bt hr key),yQ hg hy];show _=dA _ (dA (dA fK (j7 r key)) (tE r key));rw[pS (El hr key)]
  have hd:=y8 hg hy;have ux:=sk hg;have hv:=qK hg hy;have e:mH acc a=eS (iB acc a.bm.aR) a.bm.bh:=by unfold mH;rw[hy];simp
  have be:dr a.bm.bh.ar=true:=(jv hv.1).2.1;have hj:bN (iB acc a.bm.aR)=true:=wX ha λd j0=>p7 ux j0;have h2:=zm (l:=r) (wW hj hd.1) hr;rw[List.foldl_cons,e];refine⟨h2.1,λkey=>?_⟩;rw[h2.2 key,Bs key hj be,BJ ha ux];show _=dA _ (dA (dA (bL a.bm.aR key) (j7 r key)) (dA (if a.yes=true/\a.key=key then a.bm.ar else fK) (tE r key)));have e2:a.bm.bh.key=a.key:=hv.2;rw[e2];have e3:a.bm.bh.ar=a.bm.ar:=rfl;rw[e3];apply HH;intro x;by_cases hk:a.key=key
  .rw[if_pos hk,if_pos ⟨hy,hk⟩];simp only[DL];cases ck x (bL acc key)<;>cases ck x (bL a.bm.aR key)<;>cases ck x (j7 r key)<;>cases ck x a.bm.ar<;>simp
  rw[if_neg hk,if_neg λh=>hk h.2,pS (Bt hr key)];simp only[DL];cases ck x (bL acc key)<;>cases ck x (bL a.bm.aR key)<;>cases ck x (j7 r key)<;>simp
def aap {c:Call} {t t':Int} (h:fR c t=true) (ht:t<=t'):fR c t'=true:=by
 simp only[fR,mf,Bool.and_eq_true] at h⊢;have h1:aS c.bE 1 t'=true:=by
  have:=h.1.1.1.1.2;simp[aS] at this⊢;omega
 have h2:pd c t'=true:=by
  have:=h.2;unfold pd at this⊢;split
  .rename_i he;rwa[if_pos he] at this
  rename_i he;rw[if_neg he] at this;have e:aS c.end_ (c.bE+1) t'=true:=by
   simp[aS] at this⊢;omega
  have e':aS c.end_ (c.bE+1) t=true:=by
   simp[aS] at this⊢;omega
  rw[e];rwa[e'] at this
 exact⟨⟨⟨⟨⟨h.1.1.1.1.1,h1⟩,h.1.1.1.2⟩,h.1.1.2⟩,h.1.2⟩,h2⟩
def eH (s:Server) (m:az):Server×List az:=
 if m.kind=1 then im s m else if m.kind=3 then(s,iV s m) else if m.kind=5 then iq s m else if m.kind=6 then(l8 s m,[]) else
 if m.kind=7 then(s,nz s m) else if m.kind=8 then(mW s m,[]) else if m.kind=9 then ir s m else if m.kind=10 then(mX s m,[]) else(s,[])
def fH (s:Server) (m:az):Server×List az:=if s.up&&bM m&&(m.to==s.site) then eH s m else(s,[])
def dG (q:Call) (m:az) (time:Int):Call:=
 if bM m&&(m.to==10+q.aq)&&(m.call==q.num)&&g9 q.keys m.key&&gP q&&decide (q.bE<time) then
  if q.kind=1 then(if m.kind=2/\dr m.ar=true then{q with ar:=m.ar,end_:=time} else q)
  else jI q m time
 else q
def kb (w:aI) (e:Ev):aI×Bool:=
 if fC e.aq&&decide (cA w.calls e.aq<0) then({w with calls:=w.calls++[jj w e]},jJ (w.calls++[jj w e]) w.time) else(w,false)
def lu (w:aI) (m:az):aI:=
 let i:=cA w.calls (m.to-10)
 if i<0 then w else
  let q:=dG (ab w.calls i.toNat) m w.time
  let w1:={w with calls:=w.calls.set i.toNat q}
  if 0<q.end_ then{w1 with seen:=w.seen.set (m.to-10).toNat (gx q)} else w1
def iu (w:aI) (e:Ev):aI×Bool:=
 if aS e.word 0 ((w.au.length:Int)-1) then
  let m:=ab w.au e.word.toNat
  let w1:=if e.kind=5\/e.hO=0 then{w with au:=w.au.take e.word.toNat++w.au.drop (e.word.toNat+1)} else w
  if e.kind=5 then(w1,true)
  else if aS m.to 10 11 then(lu w1 m,true)
  else({w1 with aw:=w.aw.set m.to.toNat (fH (ab w.aw m.to.toNat) m).1,au:=eB w1.au (fH (ab w.aw m.to.toNat) m).2},true)
 else(w,false)
def iC (w:aI) (e:Ev):aI×Bool:=
 if e.kind=1 then kb w e else
 let i:=cA w.calls e.aq
 if i<0 then(w,false)
 else if e.kind=3 then({w with calls:=w.calls.set i.toNat {ab w.calls i.toNat with over:=true}},true)
 else({w with au:=eB w.au (jH (ab w.calls i.toNat))},true)
def aaq {q:Call} {time:Int} (h:mf q time=true):1<=q.bE/\q.bE<=time:=by
 simp only[mf,Bool.and_eq_true] at h;have:=h.1.1.2;simp[aS] at this;exact this
def aar (q:Call):
 Fn prog 174 [q.av] (AV.bool (p8 q)):=by
 refine Fn.go 100 func174 ntmps174 (λW I a U=>?_);have lens:q.keys.length<=9223372036854775807/\q.aA.length<=9223372036854775807/\q.aO.length<=9223372036854775807:=⟨U.ln 0 3,U.ln 0 11,U.ln 0 12⟩;refine gY λI a w U=>?_;refine St.lo (σ:=Nat) (run 3 2 (run 56 11 [])) ⟨λk=>[(11,AV.int k)],λk=>[],λk=>k<=q.aA.length/\∀i,i<k->(pZ q) i=true⟩ (λk=>q.aA.length-k) 0 U ?aL ?bG;case aL=>exact⟨Nat.zero_le _,λi hi=>by omega⟩
 rintro k I a w al U;obtain⟨rV,aT⟩:=al;refine ax λI a w U=>?_;refine cz (λae=>?_) λae=>?_
 .refine aV λI a w U=>?_;refine U.alloc rfl fF pG λb4 I a w U=>?_;refine aB λI a w U=>?_;obtain⟨I,U⟩:=U.fb 0 4;refine U.dk ?_;refine dM ?_;refine .o (.cl (Qk ..)) ?_;refine nd ?_;refine aX ?_;refine .nil ?_;intro I a w U;refine bk ?_;refine U.cd (λah=>?_) λah=>?_
  .rw[If] at ah;replace ah:=nt ah;refine bc ?_;exact bF (by unfold p8 nA;rw[fN (f:=pZ q) ae (by unfold pZ;rw[ah];rfl)];rfl)
  rw[If] at ah;replace ah:=nf ah;refine bO λI a w U=>?_;refine U.q .T (.cl (Hs ..)) λU=>?_;refine NM λI a w U=>?_;refine U.q .T2 (.bd dR aW.nil) λU=>?_;refine U.q .T2 (.cl (ZD _ rT)) λU=>?_;refine aN λI a w U=>?_;refine U.cd (λaj=>?_) λaj=>?_
  .rw[O2] at aj;replace aj:=nt aj;refine bc ?_;exact bF (by unfold p8 nA;rw[fN (f:=pZ q) ae (by unfold pZ;rw[ah,aj];rfl)];rfl)
  rw[O2] at aj;replace aj:=nf aj;refine aB λI a w U=>?_;have U:=U.drop 0;exact U.ag (k+1) (⟨by omega,gO aT (by unfold pZ;rw[ah,aj];rfl)⟩)
 refine zt ?_;refine aY λI a w U=>?_;refine St.lo (σ:=Nat) (2::(run 2 6 (run 22 70 []))) ⟨λk2=>[(70,AV.int k2)],λk2=>[],λk2=>k2<=q.aO.length/\∀i,i<k2->(qW q) i=true⟩ (λk2=>q.aO.length-k2) 0 U ?ei ?jK;case ei=>exact⟨Nat.zero_le _,λi hi=>by omega⟩
 rintro k2 I a w al U;obtain⟨zn,jL⟩:=al;refine ax λI a w U=>?_;refine cz (λaJ=>?_) λaJ=>?_
 .refine aH λI a w U=>?_;refine U.alloc rfl cE fh λb6 I a w U=>?_;refine ax λI a w U=>?_;obtain⟨I,U⟩:=U.fb 0 6;refine aV λI a w U=>?_;refine U.o (.c2 (Qn ..)) λU=>?_;refine ax λI a w U=>?_;refine U.dk ?_;refine gZ ?_;refine .q .F ((by first|exact dW ie fF .ag .ag (λhg=>by have h0:0<=cB q (ab q.aO k2).key:=(by simpa using hg);have:=vf h0;omega)|exact fe ie fF .ag .ag (λhg=>by have h0:0<=cB q (ab q.aO k2).key:=(by simpa using hg);have:=vf h0;omega)|exact fm ie fF .ag .ag (λhg=>by have h0:0<=cB q (ab q.aO k2).key:=(by simpa using hg);have:=vf h0;omega))) ?_;refine dJ ?_;refine .q .F (.cl (QO ..)) ?_;refine cj ?_;refine .nil ?_;intro I a w U;refine bk ?_;refine U.cd (λaP=>?_) λaP=>?_
  .rw[QN] at aP;replace aP:=nt aP;refine bc ?_;exact bF (by unfold p8 nA;rw[fJ aT om,fN (f:=qW q) aJ aP];rfl)
  rw[QN] at aP;replace aP:=nf aP;refine aB λI a w U=>?_;have U:=U.drop 0;exact U.ag (k2+1) (⟨by omega,gO jL aP⟩)
 refine zt ?_;refine dI λI a w U=>?_;refine U.q .F (.cl (Pc ..)) λU=>?_;refine di ?_;exact bF (by unfold p8 nA;rw[fJ aT om,fJ jL om];rfl)
def IF (l:List ao) (d:ao) (h:l.length<=1048575):
 Fn prog 223 [bw l,d.av] (bw (eF l d)):=by
 refine Fn.go 72 func223 ntmps223 (λW I a U=>?_);refine bz λI a w U=>?_;refine U.o (.cl (Bj ..)) λU=>?_;refine ax λI a w U=>?_;refine cz (λae=>?_) λae=>?_
 .refine zt ?_;refine U.l0 λw9 I a w U=>?_;refine U.m λU=>?_;refine U.ap 0 λlQ a w U=>?_;obtain⟨I,U⟩:=U.fr 0 14;refine bc ?_;exact congrArg (AV.rows 3) (by unfold eF;rw[if_pos ae];rfl)
 refine zt ?_;refine U.l0 λIG I a w U=>?_;refine aN λI a w U=>?_;refine St.lo (σ:=Nat×Bool×List ao×Value) (run 3 5 (run 49 16 [])) ⟨λ⟨k,done,out,u⟩=>[(7,AV.int k),(6,AV.bool done),(5,AV.val u)],λ⟨k,done,out,u⟩=>[Own.row u 115 3 (out.map ao.cells)],λ⟨k,done,out,u⟩=>mJ l d k done out⟩ (λ⟨k,done,out,u⟩=>l.length-k) (0,false,[],.slice (some ⟨IG,0,none⟩) 0 0) U ?aL ?bG;case aL=>exact mJ.zero l d
 rintro⟨k,done,out,u⟩ I a w al U;have hp:mJ l d k done out:=al;have hk:=hp.hk;have jP:=hp.len;have pD:done.toNat<=1:=by cases done<;>simp
 dsimp only at U;refine aY λI a w U=>?_;refine cz (λah=>?_) λah=>?_
 .refine zt ?_;refine U.dk ?_;refine nd ?_;refine AR ?_;refine .q .T2 (.cl (wx ..)) ?_;refine dJ ?_;refine .nil ?_;intro I a w U;refine bk ?_;refine U.cd (λaj=>?_) λaj=>?_
  .rw[Oq] at aj;simp only[B] at aj;refine aH λI a w U=>?_;refine U.o (.li [d.cells] fE (.u .nil)) λU=>?_;refine U.ap 0 λv57 a w U=>?_;rw[bV] at U;refine fo λI a w U=>?_;refine U.o (.li [(ab l k).cells] fE (.u .nil)) λU=>?_;refine U.ap 0 λIH a w U=>?_;rw[bV] at U;refine aY λI a w U=>?_;exact U.ag (k+1,true,(out++[d])++[ab l k],IH) (by obtain⟨h1,h2⟩:=aj;subst h1;exact hp.before ah h2)
  rw[Oq] at aj;simp only[B] at aj;refine bO λI a w U=>?_;refine U.o (.li [(ab l k).cells] fE (.u .nil)) λU=>?_;refine U.ap 0 λIH a w U=>?_;rw[bV] at U;refine aY λI a w U=>?_;exact U.ag (k+1,done,out++[ab l k],IH) (hp.step ah (by simpa using aj))
 refine zt ?_;refine aB λI a w U=>?_;refine cz (λaJ=>?_) λaJ=>?_
 .refine aH λI a w U=>?_;refine U.o (.li [d.cells] fE (.u .nil)) λU=>?_;refine U.ap 0 λv70 a w U=>?_;rw[bV] at U;refine aN λI a w U=>?_;obtain⟨I,U⟩:=U.fr 0 4;refine U.rt ?_;exact congrArg (AV.rows 3) (by subst aJ;unfold eF;rw[if_neg om];exact hp.qU om▸rfl)
 refine aB λI a w U=>?_;obtain⟨I,U⟩:=U.fr 0 4;refine U.rt ?_;exact congrArg (AV.rows 3) (by subst aJ;unfold eF;rw[if_neg om,hp.qT om])
def aas {l:List aE} {ds:List ao}:yO l ds=true↔∀d∈ds,∃x∈l,x.bh=d:=by
 unfold yO;rw[Bool.not_eq_true',Iv];refine forall_congr' λd=>forall_congr' λhd=>?_;rw[<-wZ];unfold missing;simp
def jx {s:Server}:gQ s=true↔bH s:=by
 have e1:(de s.aF.length (se s))=true↔∀x∈s.aF,qG x=true:=by
  have e:se s=λi=>qG (ab s.aF i):=by funext i;unfold se;rfl
  rw[e];exact zd
 have e2:(de s.an.length (tx s))=true↔∀x∈s.an,(dU s x.key !=0)=true:=by
  have e:tx s=λi=>(λv:aE=>dU s v.key !=0) (ab s.an i):=by funext i;unfold tx;rfl
  rw[e];exact zd (p:=λv:aE=>dU s v.key !=0)
 have e3:(de s.waits.length (sf s))=true↔∀x∈s.waits,tz s x=true:=by
  have e:sf s=λi=>tz s (ab s.waits i):=by funext i;unfold sf;rfl
  rw[e];exact zd
 have eu:(!(!s.up&&decide (0<s.bj.length)))=true↔(s.up=false->s.bj=[]):=by
  cases s.up<;>simp
 unfold gQ tw;simp only[Bool.and_eq_true,decide_eq_true_eq];rw[e1,e2,e3,aas,eu];constructor
 .rintro⟨⟨⟨⟨⟨⟨⟨⟨⟨⟨a1,a2⟩,a3⟩,a4⟩,a5⟩,a6⟩,a7⟩,a8⟩,a9⟩,wQ⟩,Bl⟩;refine⟨a1,a2,a3,a4,a5,a6,a7,a8,λv hv=>by simpa using a9 v hv,λv hv=>?_,λv hv=>?_,λv hv=>?_,Bl⟩<;>
   have:=wQ v hv<;>simp only[tz,Bool.and_eq_true,decide_eq_true_eq,QP,bne_iff_ne] at this
  .exact this.1.1
  .exact this.1.2
  exact this.2
 intro h;refine⟨⟨⟨⟨⟨⟨⟨⟨⟨⟨h.site,h.aF⟩,h.an⟩,h.waits⟩,h.aD⟩,h.bj⟩,h.up⟩,h.bD⟩,λv hv=>by simpa using h.here v hv⟩,λv hv=>?_⟩,h.pf⟩;simp only[tz,Bool.and_eq_true,decide_eq_true_eq,QP,bne_iff_ne];exact⟨⟨h.pV v hv,h.pW v hv⟩,h.apart v hv⟩
def bH.ok {s:Server} (h:bH s):eM s:=H9 (jx.2 h)
def bH.eb {s:Server} (h:bH s) (slot:Int):bH (eb s slot):=by
 have al:=h.ok.drop slot;refine⟨h.site,h.aF,al.an,al.waits,Eg h.aD List.filter_sublist,h.bj,h.up,h.bD,λv hv=>h.here v (qP hv),λv hv=>h.pV v (qP hv),λv hv=>h.pW v (qP hv),
  λv hv x hx=>h.apart v (qP hv) x (qP hx),λd hd=>?_⟩
 obtain⟨h1,h2⟩:=List.mem_filter.1 hd;obtain⟨x,hx,e⟩:=h.pf d h1;refine⟨x,List.mem_filter.2 ⟨hx,?_⟩,e⟩;subst e;exact h2
def Q7 {s:Server} {slot:Int}:(∀v∈(Go.Proofs.YtdanidpleofjgaaGreat.eb s slot).an,cW v.key≠slot)/\(∀v∈(Go.Proofs.YtdanidpleofjgaaGreat.eb s slot).waits,cW v.key≠slot):=by
 constructor<;>intro v hv<;>have:=(List.mem_filter.1 hv).2<;>simpa[eC] using this
def bH.wait {s:Server} (h:bH s) {v:aE} (hc:gH s.waits v=true) (hp:placeOf s.an v.bh<0) (hf:bP v.ar.site≠bP s.site) (be:dU s v.key≠0):bH {s with waits:=eE s.waits v}:=by
 have al:=h.ok.It hc hp;refine⟨h.site,h.aF,h.an,al.waits,h.aD,h.bj,h.up,h.bD,h.here,λx hx=>?_,λx hx=>?_,λx hx=>pT (al.apart x hx),h.pf⟩
 .rcases iL.1 hx with rfl|hx
  .exact be
  exact h.pV x hx
 rcases iL.1 hx with rfl|hx
 .exact hf
 exact h.pW x hx
def Q8 {s:Server} {m:az} (h:bH s):bH (l8 s m):=by
 unfold l8;split
 .exact⟨h.site,h.aF,h.an,h.waits,Eg h.aD (yZ _ _),h.bj,h.up,h.bD,h.here,h.pV,h.pW,h.apart,λd hd=>h.pf d (BF hd)⟩
 exact h
def Q9 {s:Server} {d:ao}:iT s d=true↔∃v∈s.waits,d∈v.aR:=by
 unfold iT;rw[Bool.not_eq_true',<-Bool.not_eq_true,zd (p:=λv=>!qN d v)];have e:∀v:aE,(!qN d v)=true↔d∉v.aR:=λv=>by
  unfold qN;rw[Bool.not_eq_true',decide_eq_false_iff_not,w5]
 constructor
 .intro h;apply Classical.byContradiction;intro hn;exact h λx hx=>(e x).2 λhd=>hn ⟨x,hx,hd⟩
 rintro⟨v,hv,hd⟩ h;exact(e v).1 (h v hv) hd
def Ra {s:Server} {m:az} (h:bH s) (hm:bM m=true):bH (kR s m):=by
 have U:=(ny hm).2.2.2.2.2.2.2.2;refine(h.eb m.slot).Pg U.1.1 ?_ (λv hv e=>absurd e (Q7.1 v hv)) (λv hv e=>absurd e (Q7.2 v hv)) om;rw[wL];exact⟨U.2.1.1,U.2.1.2,by simp,by simp,λe=>absurd rfl e⟩
def aat {s:Server} {m:az} (h:bH s) (hm:bM m=true):∀w∈iV s m,bM w=true:=by
 unfold iV;split
 .split
  .intro w hw;obtain rfl:w=_:=by simpa using hw
   exact QT h hm λv hv=>gy h.an v (A3 hv).1
  split
  .rename_i v hv;intro w hw;obtain rfl:w=_:=by simpa using hw
   exact QT h hm λu hu=>by cases hu;exact gy h.an v (Bu hv).1
  intro w hw;simp at hw
 intro w hw;simp at hw
def Em {s:Server} (h:bH s) {slot:Int} (h0:0<=slot) (h2:slot<=2):bM (gi s slot)=true:=by
 have hr:=Zv h (i:=slot.toNat) om;exact tp ⟨by simp[gi],by simp[gi]⟩ (pN h.site) (pN (P8 h.site)) ⟨by simp[gi,cn],by simp[gi,cn]⟩ Hp A1 ⟨by simp[gi,cn],by simp[gi,cn]⟩ rZ ⟨h0,h2⟩ hr (BE h.an List.filter_sublist) (BE h.waits List.filter_sublist) (Eg h.aD List.filter_sublist)
def aau {s:Server} (h:bH s) {d:ao}:∀w∈j8 s d,bM w=true:=by
 have U:=Hi h.site;have key:∀k:Int,0<=k->k<=1->bM {cn with kind:=5,aU:=s.site,to:=2-2*bP s.site+k,an:=(iI s.an d).toList}=true:=λk h1 h2=>
  tp ⟨by simp,by simp⟩ (pN h.site) (pN (lK.2 ⟨by simp;omega,by simp;omega⟩)) ⟨by simp[cn],by simp[cn]⟩ Hp A1 ⟨by simp[cn],by simp[cn]⟩ rZ ⟨by simp[cn],by simp[cn]⟩ ⟨by simp[cn],by simp[cn]⟩ (QS λv hv=>gy h.an v (Bu hv).1) pO wC
 unfold j8;split
 .intro w hw;rcases List.mem_cons.1 hw with rfl|hw
  .have:=key 0 om om;rwa[Int.add_zero] at this
  obtain rfl:w=_:=by simpa using hw
  exact key 1 om om
 intro w hw;simp at hw
def aav {s:Server} (h:bH s) {d:ao} (hd:lf d=true):bM (mb s d)=true:=by
 simp only[lf,Bool.and_eq_true] at hd;exact tp ⟨by simp[mb],by simp[mb]⟩ (pN h.site) (pN (P8 h.site)) ⟨by simp[mb,cn],by simp[mb,cn]⟩ hd.1 (Bm hd.2) ⟨by simp[mb,cn],by simp[mb,cn]⟩ rZ ⟨by simp[mb,cn],by simp[mb,cn]⟩ ⟨by simp[mb,cn],by simp[mb,cn]⟩ pO pO wC
def bH.small {s:Server} (h:bH s):qO s:=h.ok.small (by have:=iR h.aD;omega)
structure dS (q:Call) (t:Int):Prop where
 aq:fC q.aq=true
 num:1<=q.num/\q.num<=99
 keys:iQ q=true
 val:0<=q.val/\q.val<=9999
 ctx:bN q.ctx=true
 aO:bN q.aO=true
 bE:1<=q.bE/\q.bE<=t
 fits:ld q.ar=true
 has:∀a∈q.aA,g9 q.keys a.key=true
 sorted:q.aA.Pairwise λa b=>gR a b=true
 bD:∀a∈q.aA,dF a=true
 xa:∀d∈q.aO,so q d=true
 full:q.aO=[]\/q.aA.length=q.keys.length
 put:q.kind=1->q.aA=[]/\q.aO=[]
 read:q.kind≠1->q.val=0/\dX q.ar=true
 open_:q.end_=0->dX q.ar=true
 ended:q.end_≠0->q.over=false/\(q.bE+1<=q.end_/\q.end_<=t)/\q.aO=[]/\(q.kind=1->dX q.ar=false)/\(q.kind≠1->q.aA.length=q.keys.length)
def aaw {q:Call} (h:q.aA.Pairwise λa b=>gR a b=true) {i:Nat} (hi:i<q.aA.length):cB q (ab q.aA i).key=i:=by
 have h0:0<=cB q (ab q.aA i).key:=Ei.2 ⟨_,bB hi,rfl⟩;obtain⟨h1,h2⟩:=w6 h0;have:=Qa h h1 hi h2;omega
def II {q:Call} (h:q.aA.Pairwise λa b=>gR a b=true) {d:ao}:so q d=true↔∃a∈q.aA,a.key=d.key/\np a d.ar=true:=by
 unfold so;rw[Bool.and_eq_true,decide_eq_true_eq];constructor
 .rintro⟨h1,h2⟩;exact⟨_,bB (w6 h1).1,(w6 h1).2,h2⟩
 rintro⟨a,ha,hk,ho⟩;obtain⟨i,hi,rfl⟩:=g7 ha;have e:=aaw h hi;rw[hk] at e;rw[e];exact⟨by omega,ho⟩
def aax {q:Call} {t:Int} (h:dS q t):∀m∈asks q,(m.kind=1\/m.kind=3)/\df m.key=true/\ld m.ar=true/\(0<=m.val/\m.val<=9999)/\bN m.aR=true/\m.slot=0/\m.bf=0/\m.an=[]/\m.waits=[]/\m.aD=[]:=by
 have hk:kK q.keys=true:=by have:=h.keys;simp only[iQ,Bool.and_eq_true] at this;exact this.1
 unfold asks;split
 .intro m hm;obtain rfl:m=_:=by simpa using hm
  have h1:q.keys.length=1:=by
   have:=h.keys;rename_i e;simp[iQ,e] at this;omega
  exact⟨.inl rfl,yP hk (bB om),A1,h.val,h.ctx,rfl,rfl,rfl,rfl,rfl⟩
 intro m hm;rcases List.mem_append.1 hm with hm|hm
 .obtain⟨k,hkm,rfl⟩:=List.mem_map.1 hm;exact⟨.inr rfl,yP hk (qP hkm),A1,⟨by simp[cn],by simp[cn]⟩,rZ,rfl,rfl,rfl,rfl,rfl⟩
 obtain⟨d,hd,rfl⟩:=List.mem_map.1 hm;have:=p7 h.aO hd;simp only[iP,Bool.and_eq_true] at this;exact⟨.inr rfl,this.1,Bm this.2,⟨by simp[cn],by simp[cn]⟩,rZ,rfl,rfl,rfl,rfl,rfl⟩
def IJ {q:Call} {t:Int} (h:dS q t):∀m∈jH q,bM m=true:=by
 unfold jH;split
 .intro m hm;obtain⟨ws,h1,h2⟩:=List.mem_flatten.1 hm;obtain⟨x,hx,rfl⟩:=List.mem_map.1 h1;obtain⟨a1,a2,a3,a4,a5,a6,a7,a8,a9,wQ⟩:=aax h x hx;have hc:=sd.1 h.aq;have key:∀n:Int,cO n=true->bM {x with aU:=10+q.aq,to:=n,call:=q.num}=true:=λn hn=>
   tp (by show 1<=x.kind/\x.kind<=10;omega) (Yr h.aq) (pN hn) ⟨by have:=h.num;show 0<=q.num;omega,h.num.2⟩ a2 a3 a4 a5 (by show 0<=x.slot/\x.slot<=2;omega) (by show 0<=x.bf/\x.bf<=9999;omega)
    (by show bY x.an=true;rw[a8];rfl) (by show bY x.waits=true;rw[a9];rfl) (by show fY x.aD=true;rw[wQ];rfl)
  unfold jS at h2;rcases List.mem_cons.1 h2 with rfl|h2
  .exact key _ (lK.2 om)
  obtain rfl:m=_:=by simpa using h2
  exact key _ (lK.2 om)
 intro m hm;simp at hm
def dS.mP {q:Call} {t:Int} (h:dS q t) (hw:gP q=true) (hb:q.bE<t) (hk:q.kind≠1) {a:Answer} (ha:dF a=true) (hy:a.yes=true):dS (mP q a t) t:=by
 obtain⟨he,ho⟩:=sa hw;have be:dX q.ar=true:=h.open_ he;unfold Go.Proofs.YtdanidpleofjgaaGreat.mP;split
 .rename_i hm;have C0:=(y8 ha hy).2;have IK:=h.xa _ hm;have h0:0<=cB q a.key:=by
   unfold so at IK;rw[Bool.and_eq_true,decide_eq_true_eq,C0] at IK;exact IK.1
  obtain⟨h1,h2⟩:=w6 h0;have hlen:(q.aA.set (cB q a.key).toNat a).length=q.aA.length:=List.length_set ..;have Rb:q.aA.length=q.keys.length:=h.full.resolve_left λe=>by rw[e] at hm;simp at hm
  have p9:∀x∈q.aA.set (cB q a.key).toNat a,dF x=true:=λx hx=>by
   rcases wJ hx with rfl|⟨k,eX,_,rfl⟩
   .exact ha
   exact h.bD _ (bB eX)
  have xb:∀x∈q.aA.set (cB q a.key).toNat a,g9 q.keys x.key=true:=λx hx=>by
   rcases wJ hx with rfl|⟨k,eX,_,rfl⟩
   .have:=h.has _ (bB h1);rwa[h2] at this
   exact h.has _ (bB eX)
  have aaz:(q.aA.set (cB q a.key).toNat a).map Answer.key=q.aA.map Answer.key:=by
   rw[List.map_set];apply List.ext_getElem
   .simp
   intro n Yt yb;by_cases e:(cB q a.key).toNat=n
   .subst e;rw[List.getElem_set_self,List.getElem_map];exact h2.symm.trans (by simp[ab,h1])
   rw[List.getElem_set_ne e]
  have tQ:(q.aA.set (cB q a.key).toNat a).Pairwise λa b=>gR a b=true:=by
   have e:∀l:List Answer,(l.Pairwise λa b=>gR a b=true)↔(l.map Answer.key).Pairwise (·<·):=λl=>by
    rw[List.pairwise_map];constructor<;>intro hh<;>refine hh.imp λhl=>?_
    .unfold gR at hl;rwa[decide_eq_true_eq] at hl
    unfold gR;rwa[decide_eq_true_eq]
   rw[e,aaz,<-e];exact h.sorted
  have tT:∀d∈q.aO.filter (λd=>decide (d≠a.bm.bh)),so {q with aA:=q.aA.set (cB q a.key).toNat a,aO:=q.aO.filter λd=>decide (d≠a.bm.bh)} d=true:=λd hd=>by
   obtain⟨zq,BK⟩:=List.mem_filter.1 hd;rw[decide_eq_true_eq] at BK;have IL:d.key≠a.key:=λe=>BK (Qx h.aO zq hm (by rw[e,C0]));obtain⟨x,hx,qX,vg⟩:=(II h.sorted).1 (h.xa d zq);obtain⟨k,eX,rfl⟩:=g7 hx;refine(II tQ).2 ⟨ab q.aA k,Pj eX λe=>?_,qX,vg⟩;subst e;rw[h2] at qX;exact IL qX.symm
  have ec:bN (q.aO.filter λd=>decide (d≠a.bm.bh))=true:=OQ _ h.aO;dsimp only;split
  .rename_i hz;exact⟨h.aq,h.num,h.keys,h.val,h.ctx,ec,h.bE,h.fits,xb,tQ,p9,tT,.inl hz,λe=>absurd e hk,h.read,λ_=>be,
    λ_=>⟨ho,⟨by show q.bE+1<=t;omega,Int.le_refl _⟩,hz,λe=>absurd e hk,λ_=>by show(q.aA.set _ _).length=_;rw[hlen];exact Rb⟩⟩
  exact⟨h.aq,h.num,h.keys,h.val,h.ctx,ec,h.bE,h.fits,xb,tQ,p9,tT,.inr (by show(q.aA.set _ _).length=_;rw[hlen];exact Rb),λe=>absurd e hk,h.read,h.open_,λe=>absurd he e⟩
 exact h
def aaA {q:Call} {t:Int} (h:dS q t):bN (gx q)=true:=by
 unfold gx;split
 .exact h.ctx
 rename_i he;split
 .rename_i hk;refine wW h.ctx ?_;have U:dr q.ar=true:=by
   have h1:=(h.ended he).2.2.2.1 hk;have h2:=h.fits;unfold ld at h2;rw[h1,Bool.false_or] at h2;exact h2
  have hu:kK q.keys=true:=by have:=h.keys;simp only[iQ,Bool.and_eq_true] at this;exact this.1
  have h1:q.keys.length=1:=by
   have:=h.keys;simp[iQ,hk] at this;omega
  unfold iP;rw[Bool.and_eq_true];exact⟨yP hu (bB om),U⟩
 exact(zm h.ctx h.bD).1
structure cy (w:aI):Prop where
 time:0<=w.time
 aw:w.aw.length=4
 site:∀i,i<4->(ab w.aw i).site=(i:Int)/\bH (ab w.aw i)
 au:w.au.length<=60
 words:∀m∈w.au,bM m=true
 seen:w.seen.length=2
 kd:∀l∈w.seen,bN l=true
 calls:jJ w.calls w.time=true
def jy {w:aI}:fS w=true↔cy w/\w.time<=99999:=by
 unfold fS pJ;simp only[Bool.and_eq_true];rw[js];have e1:(!hasB wN w.au)=true↔∀m∈w.au,bM m=true:=by
  rw[Bool.not_eq_true',Iv];unfold wN;simp
 have e2:(!hasB wE w.seen)=true↔∀l∈w.seen,bN l=true:=by
  rw[Bool.not_eq_true',Iv];unfold wE;simp
 have e3:(!(!aS w.time 0 99999||((w.aw.length:Int) !=4)||decide (60<(w.au.length:Int))||((w.seen.length:Int) !=2)))=true↔(0<=w.time/\w.time<=99999)/\w.aw.length=4/\w.au.length<=60/\w.seen.length=2:=by
  simp only[Bool.not_eq_true',Bool.or_eq_false_iff,Bool.not_eq_false',aS,Bool.and_eq_true,decide_eq_true_eq,decide_eq_false_iff_not,bne_eq_false_iff_eq];omega
 rw[e1,e2,e3];have e4:∀i,qJ w i=true↔(ab w.aw i).site=(i:Int)/\bH (ab w.aw i):=λi=>by
  unfold qJ;rw[Bool.and_eq_true,beq_iff_eq,jx]
 constructor
 .rintro⟨⟨⟨⟨⟨⟨a1,a2⟩,a3,a4,a5⟩,a6⟩,a7⟩,a8⟩,a9⟩;exact⟨⟨a1,a3,λi hi=>(e4 i).1 (a6 i om),a4,a7,a5,a8,a9⟩,a2⟩
 rintro⟨h,ht⟩;exact⟨⟨⟨⟨⟨⟨h.time,ht⟩,h.aw,h.au,h.seen⟩,λi hi=>(e4 i).2 (h.site i (by rw[h.aw] at hi;exact hi))⟩,h.words⟩,h.kd⟩,h.calls⟩
def cy.send {w:aI} (h:cy w) {more:List az} (hm:∀m∈more,bM m=true):cy {w with au:=eB w.au more}:=
 ⟨h.time,h.aw,h.site,Yu h.au,Yv h.words hm,h.seen,h.kd,h.calls⟩
def cy.server {w:aI} (h:cy w) {i:Nat} (hi:i<4) {s:Server} (U:bH s) (he:s.site=(ab w.aw i).site):cy {w with aw:=w.aw.set i s}:=by
 refine⟨h.time,by show(w.aw.set _ _).length=4;rw[List.length_set];exact h.aw,λj hj=>?_,h.au,h.words,h.seen,h.kd,h.calls⟩;show(ab (w.aw.set i s) j).site=j/\bH (ab (w.aw.set i s) j);rw[jh (by rw[h.aw];exact hi)];split
 .subst_vars;exact⟨he.trans (h.site _ hi).1,U⟩
 exact h.site j hj
def cy.aaB {w:aI} (h:cy w) (i:Nat) {l:List ao} (hl:bN l=true):cy {w with seen:=w.seen.set i l}:=
 ⟨h.time,h.aw,h.site,h.au,h.words,by show(w.seen.set _ _).length=2;rw[List.length_set];exact h.seen,λx hx=>by
  rcases List.mem_or_eq_of_mem_set hx with hx|rfl
  .exact h.kd x hx
  exact hl,h.calls⟩
def aaC (s:Server) (m:az):(eH s m).1.site=s.site:=by
 unfold eH;repeat' split
 .exact ZN s m
 .rfl
 .exact ZO s m
 .show(l8 s m).site=s.site;unfold l8;split<;>rfl
 .rfl
 .show(mW s m).site=s.site;unfold mW;split
  .exact zf _
  rfl
 .exact ZP s m
 .show(mX s m).site=s.site;unfold mX;split
  .exact zf _
  rfl
 rfl
def aaD (s:Server) (m:az):(fH s m).1.site=s.site:=by
 unfold fH;split
 .exact aaC s m
 rfl
def xd:fS fw=true:=by decide
def aaE (n:Int) (l:List cw) (hn:cO n=true) (hl:∀s∈l,dr s=true):
 Fn prog 257 [AV.int n,AV.rows 2 (l.map cw.cells)] (AV.db [(qD n l).av,AV.bool (jG l)]):=by
 refine Fn.go 36 func257 ntmps257 (λW I a U=>?_);have hle:=U.dE (t:=1) rfl;refine sr<|U.alloc rfl jF ic λb4 I a w U=>?_;refine ct λI a w U=>?_;refine St.lo (σ:=Nat) (run 2 5 (8::(run 13 11 []))) ⟨λk=>[(11,AV.int k),(6,AV.int (oY (l.take k)))],λk=>[Own.box b4 50 [AV.val (.int .i64 0),AV.val (.int .i64 0)]],λk=>k<=l.length⟩ (λk=>l.length-k) 0 U ?aL ?bG;case aL=>exact Nat.zero_le _
 rintro k I a w al U;have hk:k<=l.length:=al;refine ax λI a w U=>?_;refine cz (λae=>?_) λae=>?_
 .refine aH λI a w U=>?_;refine U.alloc rfl jF ic λb8 I a w U=>?_;refine ax λI a w U=>?_;obtain⟨I,U⟩:=U.fb 1 8;refine U.o .la λU=>?_;refine U.o (.c1 (yN ..)) λU=>?_;refine ax λI a w U=>?_;refine U.cd (λah=>?_) λah=>?_
  .exfalso;simp only[B] at ah;rw[hl _ (bB ae)] at ah;cases ah;skip
  refine aV λI a w U=>?_;refine U.o (Xu .tt .tt) λU=>?_;refine aN λI a w U=>?_;have U:=U.drop 1;refine U.again (k+1) ?ij ?ik dD ?il (by repeat(first|exact Env.le_rfl|refine Env.hP rfl ?_));case ij=>omega
  case ik=>exact ae
  case il=>exact(Env.dq rfl dD (Env.dq rfl (by exact congrArg AV.int (A2 ae).symm) Env.le_nil))
 refine zt ?_;refine U.m λU=>U.o (.c1 (tu ..)) λU=>?_;refine ct λI a w U=>?_;refine cz (λaj=>?_) λaj=>?_
 .refine zt ?_;refine U.o (.bd ic aW.nil) λU=>?_;refine aB λI a w U=>?_;rw[List.take_of_length_le om] at aj;refine U.ret rfl (.cons (.sx 0) (.cons (.t rfl) ba.nil)) ?_;have e:jG l=false:=by rcases aj with h|h;(rw[hn] at h;cases h);unfold jG;simp;omega
  exact(by unfold qD;rw[e];rfl)
 refine bA λI a w U=>?_;refine U.o (lz .tt .c (λ_=>by have:=D3 hl k;omega)) λU=>?_;refine U.m λU=>?_;refine U.o (.bd ic (.k (.k aW.nil))) λU=>?_;refine aB λI a w U=>?_;rw[List.take_of_length_le om] at aj;refine U.ret rfl (.cons (.sx 0) (.cons (.t rfl) ba.nil)) ?_;have e:jG l=true:=by have:=D3 hl l.length;rw[List.take_length] at this;unfold jG;simp;omega
 exact(by unfold qD;rw[e,List.take_of_length_le om];rfl)
def Rc (l:List aE) (v:aE) (hc:bY l=true):
 Fn prog 258 [bQ l,v.av] (AV.db [bQ (if gH l v then eE l v else l),AV.bool (gH l v)]):=by
 refine Fn.go 29 func258 ntmps258 (λW I a U=>?_);have hle:=U.dE (t:=0) rfl;have zc:=gz hc;have dV:=ph hc;refine bz λI a w U=>?_;refine U.o (.cl (Bv ..)) λU=>?_;refine ax λI a w U=>?_;refine U.cd (λae=>?_) λae=>?_
 .exfalso;rw[hc] at ae;cases ae;skip
 refine bA λI a w U=>?_;refine U.o (.c1 (Hs ..)) λU=>?_;refine bz λI a w U=>?_;refine U.q .F (.cl (nq ..)) λU=>?_;refine U.q .F (.cl (qV ..)) λU=>?_;refine jf λI a w U=>?_;refine U.cd (λah=>?_) λah=>?_
 .rw[PO,Qy v hc] at ah;replace ah:=nt ah;refine bA λI a w U=>?_;refine U.o (cr (iA.fn (vb l om (λu hu=>by have:=dV u hu;omega))) (ai .r aC)) λU=>?_;refine di ?_;exact(by rw[ah];rfl)
 rw[PO,Qy v hc] at ah;replace ah:=nf ah;refine aH λI a w U=>?_;refine U.o (cr (D8 l v om (λu hu=>by have:=dV u hu;omega) (by have:=eL (DW (rY ah).1);omega)) (ai .r (ai (.t rfl) aC))) λU=>?_;refine di ?_;exact(by rw[ah];rfl)
def Rd (s:Server) (slot:Int) (h1:bY s.an=true) (h2:bY s.waits=true) (ho:s.aD.length<=80):
 Fn prog 226 [s.av,AV.int slot] ((eb s slot).av):=by
 refine Fn.go 51 func226 ntmps226 (λW I a U=>?_);have lens:s.aF.length<=9223372036854775807/\s.an.length<=9223372036854775807/\s.waits.length<=9223372036854775807/\s.aD.length<=9223372036854775807/\s.bj.length<=9223372036854775807:=⟨U.ln 0 2,U.ln 0 3,U.ln 0 4,U.ln 0 5,U.ln 0 6⟩;refine sr<|U.box rfl .tt λb2 I a w U=>U.alloc rfl cq dz λb4 I a w U=>?_;refine aV λI a w U=>?_;refine U.o (.cl (Ec _ _ h1)) λU=>?_;refine lI λI a w U=>?_;refine U.o (.cl (Ec _ _ h2)) λU=>?_;refine ct λI a w U=>?_;refine U.l0 λb23 I a w U=>?_;refine aB λI a w U=>?_;refine St.lo (σ:=Nat×Value) (run 2 5 (run 24 24 [])) ⟨λ⟨k,v⟩=>[(6,AV.int k),(5,AV.val v)],λ⟨k,v⟩=>[Own.box b2 43 [AV.int s.site,AV.bool s.up,s7 s.aF,bQ (s.an.filter λv=>!eC slot v),bQ (s.waits.filter λv=>!eC slot v),bw s.aD,bw s.bj],Own.box b4 43 [AV.val (.int .i64 0),AV.val (.bool false),AV.rows 2 [],AV.rows 7 [],AV.rows 7 [],AV.rows 3 [],AV.rows 3 []],Own.row v 115 3 (((s.aD.take k).filter (λd=>!gh slot d)).map ao.cells)],λ⟨k,v⟩=>k<=s.aD.length⟩ (λ⟨k,v⟩=>s.aD.length-k) (0,.slice (some ⟨b23,0,none⟩) 0 0) U ?aL ?bG;case aL=>exact Nat.zero_le _
 rintro⟨k,v⟩ I a w al U;have hk:k<=s.aD.length:=al;have kg:=rX (λd=>!gh slot d) s.aD k;dsimp only at U;refine ct λI a w U=>?_;refine cz (λae=>?_) λae=>?_
 .refine dI λI a w U=>?_;refine U.o (.c1 (uJ ..)) λU=>?_;refine aB λI a w U=>?_;refine U.cd (λah=>?_) λah=>?_
  .change(λd=>!gh slot d) (ab s.aD k)=true at ah;refine dI λI a w U=>?_;refine U.o (.li [(ab s.aD k).cells] fE (.u .nil)) λU=>?_;refine U.ap 2 λBL a w U=>?_;rw[bV,<-nu (p:=(λd=>!gh slot d)) ae ah] at U;refine aY λI a w U=>?_;exact U.ag (k+1,BL) (ae)
  change(λd=>!gh slot d) (ab s.aD k)=false at ah;refine aN λI a w U=>?_;rw[show(s.aD.take k).filter (λd=>!gh slot d)=(s.aD.take (k+1)).filter (λd=>!gh slot d) from(nv ae ah).symm] at U;exact U.ag (k+1,v) (ae)
 refine zt ?_;refine U.m λU=>?_;obtain⟨I,U⟩:=U.fr 2 48;refine aY λI a w U=>?_;refine U.ret rfl (.cons (.sx 1) ba.nil) ?_;exact(by rw[show s.aD.take k=s.aD from List.take_of_length_le om];rfl)
def Re (s:Server) (slot:Int) (h:qO s):
 bT prog 251 [s.av,AV.int slot] [] (λ_:Value=>True) (λv=>[Own.row v 46 2 (s.aF.map cG.cells)]) (eb s slot).yG:=by
 refine bT.intro 33 func251 rfl ntmps251 rfl aG (λW I a U=>?_);obtain⟨h1,⟨h2,h3⟩,⟨h4,h5⟩,h6,h7⟩:=id h;refine bA λI a w U=>?_;refine U.alloc rfl cq dz λb4 I a w U=>?_;refine bA λI a w U=>?_;refine U.bq [] (Bx s h) (ai .tt aC) rfl aM rfl λ⟨vS,vV,vW,vO,vK⟩ I a w tU U=>?_;refine U.alloc rfl cq dz λb5 I a w U=>?_;refine bz λI a w U=>?_;refine U.o (.cl (Ej s.an slot h2 h3)) λU=>?_;refine bz λI a w U=>?_;refine U.s1 6 λU=>?_;refine aV λI a w U=>?_;refine U.o (.cl (Ej s.waits slot h4 h5)) λU=>?_;refine bz λI a w U=>?_;refine U.s1 6 λU=>?_;refine aV λI a w U=>?_;refine U.o (.cl (QX s.aD slot h6)) λU=>?_;refine bz λI a w U=>?_;refine U.s1 6 λU=>?_;refine nn<|wp_seq ?_;obtain⟨I,U⟩:=U.fu 5 6 6;refine aB λI a w U=>?_;refine U.bJ vS [1] rfl (.cons (.sx 0) .nil) trivial rfl rfl
def qY {s:Server} {m:az} (h:m.kind=1):eH s m=((im s m).1,(im s m).2):=by unfold eH;rw[if_pos h]
def qZ {s:Server} {m:az} (h:m.kind=3):eH s m=(s,iV s m):=by unfold eH;rw[h];rfl
def ra {s:Server} {m:az} (h:m.kind=5):eH s m=((iq s m).1,(iq s m).2):=by unfold eH;rw[h];rfl
def rb {s:Server} {m:az} (h:m.kind=6):eH s m=(l8 s m,[]):=by unfold eH;rw[h];rfl
def rf {s:Server} {m:az} (h:m.kind=8):eH s m=(mW s m,[]):=by unfold eH;rw[h];rfl
def rh {s:Server} {m:az} (h:m.kind=9):eH s m=((ir s m).1,(ir s m).2):=by unfold eH;rw[h];rfl
def ri {s:Server} {m:az} (h:m.kind=10):eH s m=(mX s m,[]):=by unfold eH;rw[h];rfl
def Rf {s:Server} {k:Nat} (h:(ab s.aF k).dy=2):pg s k++[gi s (k:Int)]=pg s (k+1):=by
 unfold pg;rw[Yb h,List.map_append];rfl
def zs (s:Server):∀k,k<=s.aD.length->(iW s k).length<=3+2*k
 |0,_=>by have:=Ib s 3;simp[iW];omega
 |k+1,h=>by have:=zs s k om;have:=Qc s (ab s.aD k);rw[D7 om,List.length_append];omega
def Rg {s:Server} {d:ao} (h:¬dU s d.key=1):j8 s d=[]:=by unfold j8;rw[if_neg (by simpa using h)]
def aaG {s:Server} {d:ao} (h:dU s d.key=1):(j8 s d).length=2:=by unfold j8;rw[if_pos (by simpa using h)];rfl
def aaH {s:Server} {d:ao} {v:aE} (h:dU s d.key=1) (hv:iI s.an d=some v) {j:Nat} (hj:j<2):ab (j8 s d) j={cn with kind:=5,aU:=s.site,to:=2-2*bP s.site+(j:Int),an:=[v]}:=by
 unfold j8;rw[if_pos (by simpa using h),hv];match j,hj with
 |0,_=>show _={cn with kind:=5,aU:=s.site,to:=2-2*bP s.site+(0:Int),an:=[v]};rw[Int.add_zero];rfl
 |1,_=>rfl
def nC (s:Server) (l:List ao):List az:=iW s s.aD.length++l.map (mb s)
def Rh (s:Server) (l:List ao) (d:ao):nC s l++[mb s d]=nC s (l++[d]):=by unfold nC;simp
def Ri {s:Server} {k:Nat} (h:k=s.aD.length):iW s k=nC s (mQ s 0):=by
 subst h;unfold nC;rw[show mQ s 0=[] from rfl];simp
def Rj {s:Server} {k j:Nat} {v:aE} (be:dU s (ab s.aD k).key=1) (hv:iI s.an (ab s.aD k)=some v) (hj:j<2):iW s k++(j8 s (ab s.aD k)).take j++[{cn with kind:=5,aU:=s.site,to:=2-2*bP s.site+(j:Int),an:=[v]}]=iW s k++(j8 s (ab s.aD k)).take (j+1):=by
 rw[List.append_assoc,<-aaH be hv hj,<-ez (by rw[aaG be];exact hj)]
def aaI {s:Server} {k:Nat} {v:aE} (hk:k<s.aD.length) (BM:v.key=(ab s.aD k).key) (h:¬(ab s.aF (cW v.key).toNat).dy=1):iW s k=iW s (k+1):=by
 rw[D7 hk,Rg (by unfold dU;rw[<-BM];exact h),List.append_nil]
def Rk (s:Server) (m:az) (x:Bool):((((!decide ((eb s m.slot).an.length+m.an.length<=80))||!decide ((eb s m.slot).waits.length+m.waits.length<=80))||decide (80<((eb s m.slot).aD.length:Int)+m.aD.length))||!x)=!(tI s m&&x):=by
 have e:decide (80<((eb s m.slot).aD.length:Int)+m.aD.length)=!decide ((eb s m.slot).aD.length+m.aD.length<=80):=by rw[Bool.eq_iff_iff];simp;omega
 unfold tI;rw[e];simp
section
variable {l:List Answer} {v:Answer} {k:Nat} {out:List Answer} {done:Bool}
def mY.before (hp:mY l v k false out) (h:k<l.length) (he:v.key<(ab l k).key):mY l v (k+1) true ((out++[v])++[ab l k]):=by
 refine⟨h,?_,by have:=hp.len;simp at this⊢;omega⟩;have:=hp.eq;rw[lE h] at this;simp only[c7,if_pos he] at this;rw[this];simp
def mY.step (hp:mY l v k done out) (h:k<l.length) (he:done=true\/¬v.key<(ab l k).key):mY l v (k+1) done (out++[ab l k]):=by
 refine⟨h,?_,by have:=hp.len;simp;omega⟩;have:=hp.eq;cases done
 .rw[lE h] at this;have he:¬v.key<(ab l k).key:=he.resolve_left bt;simp only[c7,if_neg he] at this;rw[this];simp
 simp only[if_true] at this⊢;rw[this,lE h];simp
def mY.qT (hp:mY l v k true out) (h:l.length<=k):out=c7 l v:=by
 have:=hp.eq;rw[List.drop_eq_nil_of_le h] at this;simpa using this.symm
def mY.qU (hp:mY l v k false out) (h:l.length<=k):out++[v]=c7 l v:=by
 have:=hp.eq;rw[List.drop_eq_nil_of_le h] at this;simpa[c7] using this.symm
end
def vh {w:aI} (hg:cy w) {i:Nat} (hi:i<4) (s:Server) (j:Nat):sv (dL w i s) j=if j=i then s else sv w j:=jh (by rw[hg.aw];exact hi)
def nD {w:aI} (hg:cy w) {i:Nat} (hi:i<4) (s:Server):sv (dL w i s) i=s:=by rw[vh hg hi,if_pos rfl]
def zu {w:aI} (hg:cy w) {i:Nat} (hi:i<4) (s:Server) {j:Nat} (hj:j≠i):sv (dL w i s) j=sv w j:=by rw[vh hg hi,if_neg hj]
def Rl {w:aI} (hg:cy w) {i:Nat} (hi:i<4) (s:Server):sv (dL w i s) (cv i)=sv w (cv i):=zu hg hi s (Hq i)
def Rm {w:aI} (hg:cy w) {i:Nat} (hi:i<4) {s:Server} (U:bH s) (he:s.site=(sv w i).site):cy (dL w i s):=hg.server hi U he
def IM {s:Server} {slot:Int} {v:aE}:v∈(eb s slot).an↔v∈s.an/\cW v.key≠slot:=by
 show v∈s.an.filter (λv=>!eC slot v)↔_;rw[List.mem_filter];simp[eC]
def IN {s:Server} {slot:Int} {v:aE}:v∈(eb s slot).waits↔v∈s.waits/\cW v.key≠slot:=by
 show v∈s.waits.filter (λv=>!eC slot v)↔_;rw[List.mem_filter];simp[eC]
def Rn {s:Server} {slot:Int} {d:ao}:d∈(eb s slot).aD↔d∈s.aD/\cW d.key≠slot:=by
 show d∈s.aD.filter (λd=>!gh slot d)↔_;rw[List.mem_filter];simp[gh]
def aaJ {a b:List ao} (ha:bN a=true) (hb:bN b=true):uO a (iB a b):=λkey=>by rw[BJ ha hb];exact Ie _ _
def Ro {a b:List ao} (ha:bN a=true) (hb:bN b=true):uO b (iB a b):=λkey=>by rw[BJ ha hb];exact QI _ _
def aaK {w:aI} {σ:Nat} {D E:List ao} (hc:l9 w σ D) (he:l9 w σ E) (hD:bN D=true) (hE:bN E=true):l9 w σ (iB D E):=λd hd=>by
 rcases Ps hd with hd|hd
 .obtain⟨u,h1,h2,h3⟩:=hc d hd;exact⟨u,h1,h2,Ef h3 (aaJ hD hE)⟩
 obtain⟨u,h1,h2,h3⟩:=he d hd;exact⟨u,h1,h2,Ef h3 (Ro hD hE)⟩
end Go.Proofs.YtdanidpleofjgaaGreat
