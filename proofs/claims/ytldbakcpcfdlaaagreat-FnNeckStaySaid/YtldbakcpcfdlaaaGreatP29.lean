/- Part 29: contracts of functions, plain facts. -/
import Derived.Test.YtldbakcpcfdlaaaGreatP15
import Derived.Test.YtldbakcpcfdlaaaGreatP16
import Derived.Test.YtldbakcpcfdlaaaGreatP17
import Derived.Test.YtldbakcpcfdlaaaGreatP18
set_option linter.all false
set_option maxRecDepth 100000
set_option maxHeartbeats 4000000
namespace Go.Proofs.YtldbakcpcfdlaaaGreat
open Go Go.RowKit Tryz
attribute [local irreducible] wpList Code.wp Ok
def aiT (s:Server) (m:az) (hg:bJ s) (hm:bK m=true):
 Fn prog 315 [s.av,m.av] (AV.dG [(gq s m).1.av,dM (gq s m).2]):=by
 refine Fn.go 158 func315 ntmps315 (λW I a U=>?_);have ao:=jX.2 hg;have dq:=hg.ok;have lP:=nH hm;have ka:=qJ hm;have h3:=hg.aD;have h4:(eh s m.slot).aD.length=3:=h3;have py:=dq.drop m.slot;have hdv:=ga py.an;have DX:=ga lP.1;have M4:=ga lP.2.1;have QB:=iP lP.2.2.1;have xE:=ga py.waits;have hdo:=iP (hg.eh m.slot).aE;have lens:m.aQ.length<=9223372036854775807/\m.an.length<=9223372036854775807/\m.waits.length<=9223372036854775807/\m.aE.length<=9223372036854775807:=⟨U.ln 1 9,U.ln 1 12,U.ln 1 13,U.ln 1 14⟩;have lF:=iP hg.aE;have e9:∀x,x=de.cells ⟨m.bw,1⟩->(List.map de.cells (eh s m.slot).aD).set m.slot.toNat x=List.map de.cells (yZ s m 0 0 0).aD:=λx h=>by rw[h];exact List.map_set.symm
 refine aG λI a w U=>?_;refine U.alloc rfl cA dS λb4 I a w U=>?_;refine aB λI a w U=>?_;refine U.l0 λxk I a w U=>?_;obtain⟨I,U⟩:=U.fr 1 12;refine aB λI a w U=>?_;refine U.dk ?_;refine eb ?_;refine .o (.c1 (AI _ hg.site)) ?_;refine iA ?_;refine .nil ?_;intro I a w U;refine bm ?_;refine U.cd (λae=>?_) λae=>?_
 .rw[SD s m] at ae;replace ae:=nt ae;refine aX λI a w U=>?_;refine U.ret rfl (.cons (.sx 0) (.cons .x aV.nil)) ?_;exact(by rw[aeW ae];rfl)
 rw[SD s m] at ae;replace ae:=nf ae;refine mz λI a w U=>?_;refine U.o (.bd eU (.k (.k (.k (.k (.k aZ.nil)))))) λU=>?_;refine U.alloc rfl dV eU λb7 I a w U=>?_;refine aB λI a w U=>?_;obtain⟨I,U⟩:=U.fb 2 7;refine aB λI a w U=>?_;refine U.cd (λah=>?_) λah=>?_
 .refine wp_seq ?_;refine U.gG (rp 3 [([0],some (0,[])),([],none)]) aO aO rfl ?_;refine cG ?_;refine .o (.li [(nG s m).cells] iN (.u .nil)) ?_;refine bc.ji (x:=AV.any) 0 (λF W0 I0 I γ a w Q U kk=>U.sb 0 λU=>kk _ _ _ U) ?_;refine bG ?_;refine .nil ?_;intro I a w U;refine zt ?_;refine U.ret rfl (.cons (.sx 0) (.cons .x aV.nil)) ?_;exact(by rw[Uj ae (by simpa using ah)];rfl)
 refine bk λI a w U=>?_;refine U.o (bO (S8 s m.slot dq.an dq.waits om) (ax (.t rfl) (ax (.t rfl) aH))) λU=>?_;refine U.alloc rfl cA dS λb8 I a w U=>?_;refine aaw λI a w U=>?_;refine U.cd (λaq=>?_) λaq=>?_
 .rw[UR s m] at aq;replace aq:=nt aq;refine aX λI a w U=>?_;refine U.ret rfl (.cons (.sx 0) (.cons .x aV.nil)) ?_;exact(by rw[LK ae (by simpa using ah) (by rw[aq];rfl)];rfl)
 rw[UR s m] at aq;replace aq:=nf aq;refine zt ?_;refine U.l0 λb82 I a w U=>?_;refine aG λI a w U=>?_;refine U.ap 4 λv85 a w U=>?_;refine U.o .fv λU=>?_;try have arM:=U.fI 4 rfl
 refine aB λI a w U=>?_;simp only[List.nil_append] at U;obtain⟨b85,arO,e85⟩:=U.ku 4 rfl qh;subst e85;refine dZ λI a w U=>?_;refine U.o (.bd oF (.k (.k aZ.nil))) λU=>?_;refine U.o (jF gQ fh .tt .tt (λ_=>by simp only[List.length_map];omega)) λU=>?_;refine U.mn 4 fh .tt .tt rfl (by exact gB om) rfl rfl λa w U=>?_;refine zt ?_;rw[e9] at U;rotate_left
 .rfl
 obtain⟨I,U⟩:=U.fu 4 2 3;refine aB λI a w U=>?_;refine St.lo (σ:=Nat) (9::(run 19 95 [])) ⟨λi=>[(9,AV.int i)],λi=>[Own.box b4 95 [AV.val (.int .i64 0),AV.val (.bool false),AV.rows 2 [],AV.rows 7 [],AV.rows 7 [],AV.rows 3 [],AV.rows 3 []],Own.gone,Own.gone,Own.box b8 95 (yZ s m i 0 0).cells,Own.gone],λi=>i<=m.an.length⟩ (λi=>m.an.length-i) 0 U ?aI ?bF;case aI=>exact Nat.zero_le _
 rintro i I a w ao U;have hi:i<=m.an.length:=ao;dsimp only at U;refine cF λI a w U=>?_;refine cz (λaK=>?_) λaK=>?_
 .refine zt ?_;refine U.gG [([],none),([3],none),([],none),([],none),([],none),([],none),([],none),([],none),([],none),([],none),([],none),([],none),([3],some (3,[]))] aO aO rfl ?_;refine bG ?_;refine .r [3] (.lb 3) ?_;refine fZ ?_;refine .o (.cl (SI py.an lP.1 (Mx aq).1 aK)) ?_;refine eb ?_;refine bc.ji (x:=AV.any) 3 (λF W0 I0 I γ a w Q U kk=>U.s1 3 λU=>kk _ _ _ U) ?_;refine .nil ?_;intro I a w U;refine aR λI a w U=>?_;exact U.ag (i+1) (aK)
 refine zt ?_;refine aB λI a w U=>?_;refine St.lo (σ:=Nat) (10::(run 19 114 [])) ⟨λj=>[(10,AV.int j)],λj=>[Own.box b4 95 [AV.val (.int .i64 0),AV.val (.bool false),AV.rows 2 [],AV.rows 7 [],AV.rows 7 [],AV.rows 3 [],AV.rows 3 []],Own.gone,Own.gone,Own.box b8 95 (yZ s m i j 0).cells,Own.gone],λj=>j<=m.waits.length⟩ (λj=>m.waits.length-j) 0 U ?eo ?jK;case eo=>exact Nat.zero_le _
 rintro j I a w ao U;have hj:j<=m.waits.length:=ao;dsimp only at U;refine cF λI a w U=>?_;refine cz (λaS=>?_) λaS=>?_
 .refine zt ?_;refine U.gG [([],none),([3],none),([],none),([],none),([],none),([],none),([],none),([],none),([],none),([],none),([],none),([],none),([3],some (3,[]))] aO aO rfl ?_;refine bG ?_;refine .r [3] (.lb 3) ?_;refine fZ ?_;refine .o (.cl (SI py.waits lP.2.1 (Mx aq).2.1 aS)) ?_;refine eb ?_;refine bc.ji (x:=AV.any) 3 (λF W0 I0 I γ a w Q U kk=>U.s1 3 λU=>kk _ _ _ U) ?_;refine .nil ?_;intro I a w U;refine aR λI a w U=>?_;exact U.ag (j+1) (aS)
 refine zt ?_;refine aB λI a w U=>?_;refine St.lo (σ:=Nat) (11::(run 16 133 [])) ⟨λk=>[(11,AV.int k)],λk=>[Own.box b4 95 [AV.val (.int .i64 0),AV.val (.bool false),AV.rows 2 [],AV.rows 7 [],AV.rows 7 [],AV.rows 3 [],AV.rows 3 []],Own.gone,Own.gone,Own.box b8 95 (yZ s m i j k).cells,Own.gone],λk=>k<=m.aE.length⟩ (λk=>m.aE.length-k) 0 U ?iD ?od;case iD=>exact Nat.zero_le _
 rintro k I a w ao U;have hk:k<=m.aE.length:=ao;dsimp only at U;refine cF λI a w U=>?_;refine cz (λbA=>?_) λbA=>?_
 .refine zt ?_;refine U.dt 9 ?_;simp only[TD];refine mA ?_;refine .o (.cl (afm (Mx aq).2.2 bA)) ?_;refine bG ?_;refine .nil ?_;intro I a w U;refine aX λI a w U=>?_;exact U.ag (k+1) (bA)
 refine zt ?_;refine U.o (.ls 3) λU=>U.o (.c1 (xq ..)) λU=>?_;refine aB λI a w U=>?_;refine U.cd (λbt=>?_) λbt=>?_
 .rw[(GB s m om om om),Bool.not_eq_true'] at bt;refine aX λI a w U=>?_;refine U.ret rfl (.cons (.sx 0) (.cons .x aV.nil)) ?_;exact(by rw[LK ae (by simpa using ah) (by rw[aq,bt];rfl)];rfl)
 rw[(GB s m om om om),Bool.not_eq_false'] at bt;refine zt ?_;refine U.gG (([3],none)::rp 3 [([0],some (0,[])),([],none)]) aO aO rfl ?_;refine .r [3] (.ls 3) ?_;refine .o (bO (AB (yZ s m i j k) (by rw[(GB s m om om om)];exact(jX.1 bt).ok)) (ax (.t rfl) aH)) ?_;refine bG ?_;refine .o (.li [(nG s m).cells] iN (.u .nil)) ?_;refine bc.ji (x:=AV.any) 0 (λF W0 I0 I γ a w Q U kk=>U.sb 0 λU=>kk _ _ _ U) ?_;refine bG ?_;refine .nil ?_;intro I a w U;refine zt ?_;refine U.ret rfl (.cons (.sx 0) (.cons .x aV.nil)) ?_;exact(by rw[Uk ae (by simpa using ah) (by rw[aq,bt];rfl),(GB s m om om om)];rfl)
def bJ.put {s:Server} (h:bJ s) {v:aA} (hc:iO s.an v=true) (U:bM v.ar.site=bM s.site) (bj:cP s v.key≠0) (hl:s.aE.length<80):bJ {s with an:=fJ s.an v,aE:=eA s.aE v.aU}:=by
 obtain⟨h1,h2,h3⟩:=wY hc;have hp:=iW h1;refine⟨h.site,h.aD,FP h.an h1 h2 h3,h.waits,Mv h.aE (by simp only[kO,Bool.and_eq_true];exact⟨hp.1,hp.2.1⟩) hl,h.ba,h.up,h.aN,λx hx=>?_,h.oK,h.oL,λw hw x hx=>?_,λd hd=>?_⟩
 .rcases hC.1 hx with rfl|hx
  .exact bj
  exact h.here x hx
 .rcases hC.1 hx with rfl|hx
  .intro e;have:=h.oL w hw;have e2:w.ar=x.ar:=by have:=congrArg aw.ar e;exact this.symm
   rw[e2] at this;exact this U
  exact h.apart w hw x hx
 rcases xp.1 hd with rfl|hd
 .exact⟨v,hC.2 (.inl rfl),rfl⟩
 exact RT (h.lN d hd)
structure dJ (q:Call) (t:Int):Prop where
 aj:eF q.aj=true
 num:1<=q.num/\q.num<=99
 keys:fU q=true
 val:0<=q.val/\q.val<=9999
 ctx:bT q.ctx=true
 aL:bT q.aL=true
 bH:1<=q.bH/\q.bH<=t
 fits:mq q.ar=true
 has:∀a∈q.au,iE q.keys a.key=true
 sorted:q.au.Pairwise λa b=>gZ a b=true
 aN:∀a∈q.au,dL a=true
 xA:∀d∈q.aL,ug q d=true
 full:q.aL=[]\/q.au.length=q.keys.length
 put:q.kind=1->q.au=[]/\q.aL=[]
 read:q.kind≠1->q.val=0/\dw q.ar=true
 open_:q.end_=0->dw q.ar=true
 ended:q.end_≠0->q.over=false/\(q.bH+1<=q.end_/\q.end_<=t)/\q.aL=[]/\(q.kind=1->dw q.ar=false)/\(q.kind≠1->q.au.length=q.keys.length)
def uy {q:Call} {t:Int}:gf q t=true↔dJ q t:=by
 have e1:(cI q.aL.length (sF q))=true↔∀d∈q.aL,ug q d=true:=by
  have e:sF q=λi=>ug q (ab q.aL i):=by funext i;rfl
  rw[e];exact tY
 have e2:(((q.aL.length:Int)==0)||qR q)=true↔q.aL=[]\/q.au.length=q.keys.length:=by
  unfold qR;rw[Bool.or_eq_true,beq_iff_eq,beq_iff_eq];constructor
  .rintro(h|h)
   .exact .inl (List.length_eq_zero_iff.1 om)
   exact .inr om
  rintro(h|h)
  .exact .inl (by rw[h];rfl)
  exact .inr om
 have e3:AN q=true↔(q.kind=1->q.au=[]/\q.aL=[])/\(q.kind≠1->q.val=0/\dw q.ar=true):=by
  unfold AN;rw[SQ];by_cases hk:q.kind=1
  .simp[hk]
  simp[hk]
 have e4:oX q t=true↔(q.end_=0->dw q.ar=true)/\(q.end_≠0->q.over=false/\(q.bH+1<=q.end_/\q.end_<=t)/\q.aL=[]/\(q.kind=1->dw q.ar=false)/\(q.kind≠1->q.au.length=q.keys.length)):=by
  unfold oX;by_cases he:q.end_=0
  .simp[he]
  rw[if_neg he,KP];unfold qR aJ;by_cases hk:q.kind=1
  .simp[hk,he,and_assoc]
  simp[hk,he,and_assoc];omega
 unfold gf nL qX;simp only[Bool.and_eq_true];rw[Vl,e1,e2,e3,e4];constructor
 .rintro⟨⟨⟨⟨⟨⟨⟨⟨⟨⟨a1,a2⟩,a3⟩,a4⟩,a5⟩,a6⟩,a7⟩,a8⟩,⟨⟨a9,yw,CQ⟩,Li⟩,Lj⟩,a14,a15⟩,a16,a17⟩;simp only[aJ,Bool.and_eq_true,decide_eq_true_eq] at a2 a4 a7;exact⟨a1,a2,a3,a4,a5,a6,a7,a8,a9,yw,CQ,Li,Lj,a14,a15,a16,a17⟩
 intro h;simp only[aJ,Bool.and_eq_true,decide_eq_true_eq];exact⟨⟨⟨⟨⟨⟨⟨⟨⟨⟨h.aj,h.num⟩,h.keys⟩,h.val⟩,h.ctx⟩,h.aL⟩,h.bH⟩,h.fits⟩,⟨⟨h.has,h.sorted,h.aN⟩,h.xA⟩,h.full⟩,h.put,h.read⟩,h.open_,h.ended⟩
def dJ.later {q:Call} {t t':Int} (h:dJ q t) (ht:t<=t'):dJ q t':=uy.1 (af7 (uy.2 h) ht)
def MC {q:Call} {t:Int} (h:dJ q t) {key:Int} (hk:iE q.keys key=true):0<=key/\key<=5:=by
 have hu:jZ q.keys=true:=by have:=h.keys;simp only[fU,Bool.and_eq_true] at this;exact this.1
 exact K9.1 (AW hu (lR.1 hk))
def GY {q:Call} {t:Int} (h:dJ q t) {key:Int} (hk:iE q.keys key=true) (hn:cv q key<0):q.aL=[]/\q.au.length<q.keys.length:=by
 have hu:jZ q.keys=true:=by have:=h.keys;simp only[fU,Bool.and_eq_true] at this;exact this.1
 have bz:q.au.length<q.keys.length:=by
  apply Nat.lt_of_not_le;intro hle;have aW:∀a∈q.au,a.key≠key:=λa ha e=>by
   have:=xg (q:=q) (key:=key).2 ⟨a,ha,e⟩;omega
  have U:((dj q.au {(default:Answer) with key:=key}).map Answer.key).Pairwise (·<·):=by
   rw[List.pairwise_map];refine(LJ h.sorted λx hx=>aW x hx).imp λhl=>?_;unfold gZ at hl;rwa[decide_eq_true_eq] at hl
  have:=F1 (Ur hu) U λa ha=>by
   rcases oW.1 ha with rfl|ha
   .exact lR.1 hk
   exact lR.1 (h.has a ha)
  rw[yL] at this;omega
 exact⟨h.full.resolve_right om,bz⟩
def dJ.mb {q:Call} {t:Int} (h:dJ q t) (hw:bV q=true) (hb:q.bH<t) (hk:q.kind≠1) {a:Answer} (ha:dL a=true) (gH:iE q.keys a.key=true) (hn:cv q a.key<0):dJ (mb q a t) t:=by
 obtain⟨he,ho⟩:=oZ hw;obtain⟨uz,bz⟩:=GY h gH hn;have aW:∀x∈q.au,x.key≠a.key:=λx hx e=>by
  have:=xg (q:=q) (key:=a.key).2 ⟨x,hx,e⟩;omega
 have bj:dw q.ar=true:=h.open_ he;have q7:∀x∈dj q.au a,dL x=true:=λx hx=>by
  rcases oW.1 hx with rfl|hx
  .exact ha
  exact h.aN x hx
 have zi:∀x∈dj q.au a,iE q.keys x.key=true:=λx hx=>by
  rcases oW.1 hx with rfl|hx
  .exact gH
  exact h.has x hx
 have vQ:=LJ h.sorted aW;have h1:dJ {q with au:=dj q.au a} t:=
  ⟨h.aj,h.num,h.keys,h.val,h.ctx,h.aL,h.bH,h.fits,zi,vQ,q7,λd hd=>by have:d∈q.aL:=hd;rw[uz] at this;simp at this,.inl uz,λe=>absurd e hk,h.read,h.open_,λe=>absurd he e⟩
 unfold Go.Proofs.YtldbakcpcfdlaaaGreat.mb;dsimp only;split
 .exact h1
 rename_i hlen;have hl:(dj q.au a).length=q.keys.length:=by rw[yL];have:¬(dj q.au a).length<q.keys.length:=hlen;rw[yL] at this;omega
 have Bh:∀key,ua (bI (fT {q with au:=dj q.au a}) key):=λkey=>by
  have:=(pY (l:=dj q.au a) (acc:=[]) rfl q7);exact tZ this.1 key
 have eW:bT (ky {q with au:=dj q.au a})=true:=Mw _ Bh vQ (λx hx=>by have:=MC h (zi x hx);omega) q7;have vR:∀d∈ky {q with au:=dj q.au a},ug {q with au:=dj q.au a} d=true:=λd hd=>by
  obtain⟨x,hx,e,sP⟩:=Kt hd;refine(GR vQ).2 ⟨x,hx,by rw[e],?_⟩;unfold nE;rw[sP];simp
 unfold kV;split
 .rename_i h0;have h0:q.aL++ky {q with au:=dj q.au a}=[]:=h0;exact⟨h.aj,h.num,h.keys,h.val,h.ctx,by show bT (q.aL++_)=true;rw[h0];rfl,h.bH,h.fits,zi,vQ,q7,λd hd=>by have:d∈q.aL++_:=hd;rw[h0] at this;simp at this,.inl h0,λe=>absurd e hk,h.read,λ_=>bj,
   λ_=>⟨ho,⟨by show q.bH+1<=t;omega,Int.le_refl _⟩,h0,λe=>absurd e hk,λ_=>hl⟩⟩
 exact⟨h.aj,h.num,h.keys,h.val,h.ctx,by show bT (q.aL++_)=true;rw[uz];exact eW,h.bH,h.fits,zi,vQ,q7,λd hd=>vR d (by have:d∈q.aL++_:=hd;rwa[uz] at this),.inr hl,λe=>absurd e hk,h.read,h.open_,λe=>absurd he e⟩
def dJ.lu {q:Call} {t:Int} (h:dJ q t) (hw:bV q=true) (hb:q.bH<t) (hk:q.kind≠1) {a:Answer} (ha:dL a=true) (hy:a.yes=true):dJ (lu q a t) t:=by
 obtain⟨he,ho⟩:=oZ hw;have bj:dw q.ar=true:=h.open_ he;unfold Go.Proofs.YtldbakcpcfdlaaaGreat.lu;split
 .rename_i hm;have sf:=(AO ha hy).2;have MD:=h.xA _ hm;have h0:0<=cv q a.key:=by
   unfold ug at MD;rw[Bool.and_eq_true,decide_eq_true_eq,sf] at MD;exact MD.1
  obtain⟨h1,h2⟩:=vP h0;have hlen:(q.au.set (cv q a.key).toNat a).length=q.au.length:=List.length_set ..;have Vz:q.au.length=q.keys.length:=h.full.resolve_left λe=>by rw[e] at hm;simp at hm
  have q7:∀x∈q.au.set (cv q a.key).toNat a,dL x=true:=λx hx=>by
   rcases xm hx with rfl|⟨k,fV,_,rfl⟩
   .exact ha
   exact h.aN _ (bh fV)
  have zi:∀x∈q.au.set (cv q a.key).toNat a,iE q.keys x.key=true:=λx hx=>by
   rcases xm hx with rfl|⟨k,fV,_,rfl⟩
   .have:=h.has _ (bh h1);rwa[h2] at this
   exact h.has _ (bh fV)
  have sQ:(q.au.set (cv q a.key).toNat a).map Answer.key=q.au.map Answer.key:=by
   rw[List.map_set];apply List.ext_getElem
   .simp
   intro n Di xP;by_cases e:(cv q a.key).toNat=n
   .subst e;rw[List.getElem_set_self,List.getElem_map];exact h2.symm.trans (by simp[ab,h1])
   rw[List.getElem_set_ne e]
  have vQ:(q.au.set (cv q a.key).toNat a).Pairwise λa b=>gZ a b=true:=by
   have e:∀l:List Answer,(l.Pairwise λa b=>gZ a b=true)↔(l.map Answer.key).Pairwise (·<·):=λl=>by
    rw[List.pairwise_map];constructor<;>intro hh<;>refine hh.imp λhl=>?_
    .unfold gZ at hl;rwa[decide_eq_true_eq] at hl
    unfold gZ;rwa[decide_eq_true_eq]
   rw[e,sQ,<-e];exact h.sorted
  have vR:∀d∈q.aL.filter (λd=>decide (d≠a.aY.aU)),ug {q with au:=q.au.set (cv q a.key).toNat a,aL:=q.aL.filter λd=>decide (d≠a.aY.aU)} d=true:=λd hd=>by
   obtain⟨GA,vJ⟩:=List.mem_filter.1 hd;rw[decide_eq_true_eq] at vJ;have ME:d.key≠a.key:=λe=>vJ (TG h.aL GA hm (by rw[e,sf]));obtain⟨x,hx,o8,xz⟩:=(GR h.sorted).1 (h.xA d GA);obtain⟨k,fV,rfl⟩:=fS hx;refine(GR vQ).2 ⟨ab q.au k,Lm fV λe=>?_,o8,xz⟩;subst e;rw[h2] at o8;exact ME o8.symm
  have eW:bT (q.aL.filter λd=>decide (d≠a.aY.aU))=true:=TH _ h.aL;dsimp only;split
  .rename_i hz;exact⟨h.aj,h.num,h.keys,h.val,h.ctx,eW,h.bH,h.fits,zi,vQ,q7,vR,.inl hz,λe=>absurd e hk,h.read,λ_=>bj,
    λ_=>⟨ho,⟨by show q.bH+1<=t;omega,Int.le_refl _⟩,hz,λe=>absurd e hk,λ_=>by show(q.au.set _ _).length=_;rw[hlen];exact Vz⟩⟩
  exact⟨h.aj,h.num,h.keys,h.val,h.ctx,eW,h.bH,h.fits,zi,vQ,q7,vR,.inr (by show(q.au.set _ _).length=_;rw[hlen];exact Vz),λe=>absurd e hk,h.read,h.open_,λe=>absurd he e⟩
 exact h
def pb {l:List Call} {t:Int}:jr l t=true↔l.length<=20/\∀i,i<l.length->dJ (ab l i) t/\(i=0\/(ab l (i-1)).bH<(ab l i).bH)/\(ab l i).num=fM l (i+1) (ab l i).aj/\∀j,j<i->mH (ab l j) (ab l i)=false:=by
 unfold jr nM zc;rw[Bool.and_eq_true,gF,decide_eq_true_eq];constructor
 .rintro⟨h,hl⟩;refine⟨hl,λi hi=>?_⟩;have:=h i hi;simp only[Bool.and_eq_true,Bool.or_eq_true,decide_eq_true_eq,beq_iff_eq,gF] at this;exact⟨uy.1 this.1.1.1,this.1.1.2,this.1.2,λj hj=>by simpa using this.2 j hj⟩
 rintro⟨hl,h⟩;refine⟨λi hi=>?_,hl⟩;obtain⟨a1,a2,a3,a4⟩:=h i hi;simp only[Bool.and_eq_true,Bool.or_eq_true,decide_eq_true_eq,beq_iff_eq,gF];exact⟨⟨⟨uy.2 a1,a2⟩,a3⟩,λj hj=>by rw[a4 j hj];rfl⟩
def bX.call {w:ai} (h:bX w) {i:Nat} (hi:i<w.calls.length):dJ (ab w.calls i) w.time:=((pb.1 h.calls).2 i hi).1
def GZ (s:Server) (m:az):(!aJ m.aT 10 11||decide (m.call<1)||!fE s m.key)=!(aJ m.aT 10 11&&decide (1<=m.call)&&fE s m.key):=by
 have e:decide (m.call<1)=!decide (1<=m.call):=by rw[Bool.eq_iff_iff];simp
 rw[e];simp
def VA (s:Server) (slot:Int) (h1:ct s.an=true) (h2:ct s.waits=true) (h0:cM s.site=true) (h3:s.aD.length=3) (ka:0<=slot/\slot<3) (ho:s.aE.length<=80):
 Fn prog 317 [s.av,AV.int slot] ((gS s slot).av):=by
 refine Fn.go 63 func317 ntmps317 (λW I a U=>?_);have lens:s.aD.length<=9223372036854775807/\s.an.length<=9223372036854775807/\s.waits.length<=9223372036854775807/\s.aE.length<=9223372036854775807/\s.ba.length<=9223372036854775807:=⟨U.ln 0 2,U.ln 0 3,U.ln 0 4,U.ln 0 5,U.ln 0 6⟩;refine sr<|U.box rfl .tt λb2 I a w U=>U.alloc rfl dV eU λb4 I a w U=>?_;refine zt ?_;refine U.da 14 ?_;simp only[TD];refine eb ?_;refine .o (.c1 (AI _ h0)) ?_;refine mA ?_;refine .o (.bd aaU (.k (.k (.k (.k (.k aZ.nil)))))) ?_;refine gW.alloc dV eU<|.nil ?_;intro I a w U;obtain⟨b5,U⟩:=U.u6 (d:=5) rfl;refine aB λI a w U=>?_;have U:=U.ik (sz:=3) 125;refine bk λI a w U=>?_;refine U.o (.cl (Gf _ _ h1)) λU=>?_;refine mz λI a w U=>?_;refine U.o (.cl (Gf _ _ h2)) λU=>?_;refine iM λI a w U=>?_;refine St.lo (σ:=Nat×Value) (6::(run 26 36 [])) ⟨λ⟨k,v⟩=>[(6,AV.int k)],λ⟨k,v⟩=>[Own.box b2 95 s.cells,Own.box b4 108 [AV.val (.int .i64 0),AV.val (.int .i64 0),AV.val (.int .i64 0),AV.val (.int .i64 0),AV.val (.int .i64 0),AV.val (.int .i64 0),AV.val (.int .i64 0),AV.val (.int .i64 0),AV.val (.bool false),AV.rows 3 [],AV.val (.int .i64 0),AV.val (.int .i64 0),AV.rows 7 [],AV.rows 7 [],AV.rows 3 []],Own.box b5 108 [AV.int (gS s slot).kind,AV.int (gS s slot).aT,AV.int (gS s slot).to,AV.int (gS s slot).call,AV.int (gS s slot).key,AV.int (gS s slot).ar.time,AV.int (gS s slot).ar.site,AV.int (gS s slot).val,AV.bool (gS s slot).yes,AV.val (.slice none 0 0),AV.int (gS s slot).slot,AV.int (gS s slot).bw,bU (gS s slot).an,bU (gS s slot).waits,AV.val v],Own.row v 125 3 (((s.aE.take k).filter (gY slot)).map aw.cells)],λ⟨k,v⟩=>k<=s.aE.length⟩ (λ⟨k,v⟩=>s.aE.length-k) (0,.slice none 0 0) U ?aI ?bF;case aI=>exact Nat.zero_le _
 rintro⟨k,v⟩ I a w ao U;have hk:k<=s.aE.length:=ao;have lE:=tX (gY slot) s.aE k;dsimp only at U;refine cF λI a w U=>?_;refine cz (λae=>?_) λae=>?_
 .refine dZ λI a w U=>?_;refine U.o (.c1 (wT ..)) λU=>?_;refine aF λI a w U=>?_;refine U.cd (λah=>?_) λah=>?_
  .change(gY slot) (ab s.aE k)=true at ah;refine U.dt 8 ?_;simp only[TD];refine mA ?_;refine .o (.li [(ab s.aE k).cells] jk (.u .nil)) ?_;refine .nil ?_;intro I a w U;refine U.ap 3 λv60 a w U=>?_;refine U.o .fv λU=>?_;try have arw:=U.fI 3 rfl
   refine aB λI a w U=>?_;rw[cJ,<-oI (p:=(gY slot)) ae ah] at U;refine aR λI a w U=>?_;exact U.ag (k+1,v60) (ae)
  change(gY slot) (ab s.aE k)=false at ah;refine aR λI a w U=>?_;rw[show(s.aE.take k).filter (gY slot)=(s.aE.take (k+1)).filter (gY slot) from(oJ ae ah).symm] at U;exact U.ag (k+1,v) (ae)
 refine wp_exit<|cB<|cB<|fo<|bm<|wp_seq ?_;have U:=U.nY (q:=9) 2 rfl rfl (fN 3 _);obtain⟨I,U⟩:=U.fu 3 14 2;refine aF λI a w U=>?_;refine U.ret rfl (.cons (.sx 1) aV.nil) ?_;exact(by rw[show s.aE.take k=s.aE from List.take_of_length_le om];rfl)
def agY {s:Server} {m:az} (h:(aJ m.aT 10 11&&decide (1<=m.call)&&fE s m.key)=false):gC s m=(s,[]):=by unfold gC;rw[h];rfl
def VB {s:Server} {m:az} (h:(aJ m.aT 10 11&&decide (1<=m.call)&&fE s m.key)=true) (hv:(kU s m.key (m.aT-10) m.call).isSome=true):gC s m=(s,[nF s m ((kU s m.key (m.aT-10) m.call).getD default).ar]):=by
 obtain⟨v,hv⟩:=Option.isSome_iff_exists.1 hv;unfold gC;rw[h,hv];rfl
def MF {s:Server} {m:az} (h:(aJ m.aT 10 11&&decide (1<=m.call)&&fE s m.key)=true) (hv:(kU s m.key (m.aT-10) m.call).isSome=false) (hf:(jM (fB s m)&&iO s.an (eV s m)&&decide (s.aE.length<80))=false):gC s m=(s,[]):=by
 have hv:=Dv (o:=kU s m.key (m.aT-10) m.call) (by rw[hv];rfl);unfold gC;rw[h,hv];dsimp only;rw[hf];rfl
def VC {s:Server} {m:az} (h:(aJ m.aT 10 11&&decide (1<=m.call)&&fE s m.key)=true) (hv:(kU s m.key (m.aT-10) m.call).isSome=false) (hf:(jM (fB s m)&&iO s.an (eV s m)&&decide (s.aE.length<80))=true):
 gC s m=(ef {s with an:=fJ s.an (eV s m),aE:=eA s.aE (eV s m).aU},[nF s m (eV s m).ar]):=by
 have hv:=Dv (o:=kU s m.key (m.aT-10) m.call) (by rw[hv];rfl);unfold gC;rw[h,hv];dsimp only;rw[hf];rfl
def agZ (s:Server) (slot:Int) (hg:bJ s):
 Fn prog 279 [s.av,AV.int slot] (AV.dG [(fF s slot).1.av,(fF s slot).2.1.av,AV.bool (fF s slot).2.2]):=by
 refine Fn.go 59 func279 ntmps279 (λW I a U=>?_);have ao:=jX.2 hg;have dq:=hg.ok;have h3:=hg.aD;have e9:∀x,x=de.cells ⟨(ab s.aD slot.toNat).bw+1,2⟩->(List.map de.cells s.aD).set slot.toNat x=List.map de.cells (j9 s slot).aD:=λx h=>by rw[h];exact List.map_set.symm
 refine bD λI a w U=>?_;refine U.alloc rfl cA dS λb4 I a w U=>U.alloc rfl dV eU λb5 I a w U=>?_;refine aG λI a w U=>?_;refine U.o (.c1 (xq ..)) λU=>?_;refine aB λI a w U=>?_;refine U.cd (λae=>?_) λae=>?_
 .exfalso;rw[ao] at ae;cases ae;skip
 refine bD λI a w U=>?_;refine U.cY [] (aeL s hg.small) (ax .tt aH) rfl aP rfl λm8 I a w vT U=>?_;refine U.alloc rfl cA dS λb7 I a w U=>?_;refine dZ λI a w U=>?_;refine U.q .F (.cl (jJ ..)) λU=>?_;refine dZ λI a w U=>?_;refine U.q .F ((by first|exact ff gQ fh .ag .ag (λhg=>by simp[aJ] at hg;omega)|exact iT gQ fh .ag .ag (λhg=>by simp[aJ] at hg;omega)|exact je gQ fh .ag .ag (λhg=>by simp[aJ] at hg;omega))) λU=>?_;refine mz λI a w U=>?_;refine U.q .F ((by first|exact ff gQ fh .ag .ag (λhg=>by simp[aJ] at hg;omega)|exact iT gQ fh .ag .ag (λhg=>by simp[aJ] at hg;omega)|exact je gQ fh .ag .ag (λhg=>by simp[aJ] at hg;omega))) λU=>?_;refine aX λI a w U=>?_;refine U.cd (λah=>?_) λah=>?_
 .rw[Se] at ah;replace ah:=nt ah;obtain⟨I,U⟩:=U.fu 2 2 3;refine bD λI a w U=>?_;refine U.o (.bd eU aZ.nil) λU=>?_;refine aR λI a w U=>?_;refine U.ret rfl (.cons (.sx 0) (.cons (.sx 1) (.cons (.t rfl) aV.nil))) ?_;exact(by unfold fF;rw[ah];rfl)
 rw[Se] at ah;replace ah:=nf ah;have hmp:=yz ah;have Bj:=uc.1 (F5 hg (i:=slot.toNat) om);have zj:=A4 hg ah;refine zt ?_;obtain⟨ux,arx,e14⟩:=U.ku 2 rfl qh;subst e14;refine U.dt 12 ?_;simp only[TD];refine pK ?_;refine .o (.bd oF (.k (.k aZ.nil))) ?_;refine .o (jF gQ fh .tt .tt (λ_=>by simp only[List.length_map];omega)) ?_;refine .nil ?_;intro I a w U;refine U.mn 2 fh .tt .tt rfl (by exact gB om) rfl rfl λa w U=>?_;refine zt ?_;rw[e9] at U;rotate_left
 .rfl
 obtain⟨I,U⟩:=U.fu 2 2 3;refine U.dt 4 ?_;simp only[TD];refine dO ?_;refine .o (bO (VA (j9 s slot) slot zj.an zj.waits hg.site zj.aD om (iP hg.aE)) (ax (.t rfl) (ax (.t rfl) aH))) ?_;refine .nil ?_;intro I a w U;refine aR λI a w U=>?_;refine U.ret rfl (.cons (.sx 0) (.cons (.sx 1) (.cons (.t rfl) aV.nil))) ?_;exact(by unfold fF;rw[ah];rfl)
def dJ.DO {q:Call} {t:Int} (h:dJ q t) (ht:0<=t):0<=q.end_/\q.end_<=t:=by
 by_cases he:q.end_=0
 .omega
 have:=h.ended he;have:=h.bH;omega
def VD {q:Call} {a:Answer} {t:Int} {k:Nat} (h:q.aL.length<=k):lu q a t=if(qT q a k=[]/\q.aL≠[]) then{q with au:=qQ q a k,aL:=qT q a k,end_:=t} else{q with au:=qQ q a k,aL:=qT q a k}:=by
 unfold lu qT qQ;rw[List.take_of_length_le h];by_cases hm:a.aY.aU∈q.aL
 .rw[if_pos hm,if_pos hm];have aW:q.aL≠[]:=λe=>by rw[e] at hm;simp at hm
  dsimp only;by_cases he:(q.aL.filter λd=>decide (d≠a.aY.aU))=[]
  .rw[if_pos he,if_pos ⟨he,aW⟩]
  rw[if_neg he,if_neg λhh=>he hh.1]
 rw[if_neg hm,if_neg hm];have hf:(q.aL.filter λd=>decide (d≠a.aY.aU))=q.aL:=by
  rw[List.filter_eq_self];intro d hd;simp;rintro rfl;exact hm hd
 rw[hf,if_neg λhh=>hh.2 hh.1]
def VE (q:Call) (m:az) (t:Int) (he:0<=q.end_):(!bK m||(m.to !=10+q.aj)||(m.call !=q.num)||!iE q.keys m.key||decide (0<q.end_)||q.over||decide (t<=q.bH))=
 !(bK m&&(m.to==10+q.aj)&&(m.call==q.num)&&iE q.keys m.key&&bV q&&decide (q.bH<t)):=by
 have e1:decide (0<q.end_)=!(q.end_==0):=by rw[Bool.eq_iff_iff];simp;omega
 have e2:decide (t<=q.bH)=!decide (q.bH<t):=by rw[Bool.eq_iff_iff];simp
 unfold bV;rw[e1,e2];simp[bne,Bool.or_assoc]
def ag2 {q:Call} {t:Int} (h:dJ q t) {x:Answer} {k:Nat} (hk:k<q.aL.length) (he:ab q.aL k=x.aY.aU) (hx:x.aY.key=x.key):0<=cv q x.key:=by
 have:=h.xA _ (bh hk);unfold ug at this;rw[Bool.and_eq_true,decide_eq_true_eq,he] at this;rw[<-hx];exact this.1
def MG (l:List aA) (key:Int) (hd:∀v∈l,v.aQ.length<=1048576):Fn prog 82 [bU l,.int key] (.dG [((dY l key).getD default).av,.bool (dY l key).isSome]):=by
 refine⟨rU.of func82 rfl aO,λI0 w0 vs hm ha=>(callsIn_wide (n:=3)).1 ?_⟩;refine abL (F:=lV) 19 func82 rfl ntmps82 rfl hm ha λa U=>?_;have hQ:∀a w',¬bodyPostM Fence.wide 3 prog f82 (z1 I0 w0 (.dG [((dY l key).getD default).av,.bool (dY l key).isSome])) .outgrown a w':=λa w' h=>h;refine wpIn_seq (Ao (by exact hQ) rfl ?_);refine U.o (z5 .tt (by first|exact j6 rfl|exact kg|exact kh|exact kr)) λU=>?_;refine U.alloc rfl bL ee λb4 I a w U=>?_;refine U.alloc rfl Aj zc4 λb5 I a w U=>?_;refine nn (wpIn_seq (wpIn_seq (Ao (by exact hQ) rfl ?_)));refine bD λI a w U=>?_;refine U.o (.c1 (adh l)) λ{I1 a1 w1} U=>nn ?_;refine wpIn_block ?_;obtain⟨p,hp9,hp⟩:∃p,a1.eval (.tmp 9)=.func (.func 240) #[] #[p]/\(AV.ptr [bU l]).h I1 p:=by
  obtain⟨cs,e,h⟩:=U.env 9 _ rfl;obtain⟨cs⟩:=cs;match cs,h with
  |[p],h=>exact⟨p,e,h.1⟩
 have hcx:=U;have U:=U.re;obtain⟨H1,xB⟩:∃H1,H1=[Own.box b4 54 [AV.val (.int .i64 0),AV.val (.int .i64 0),AV.val (.int .i64 0),AV.val (.int .i64 0),AV.val (.int .i64 0),AV.val (.int .i64 0),AV.rows 3 []],Own.box b5 4 [AV.bool false]]:=⟨_,rfl⟩;have ae:boxes H1:=λo ho=>by
  rw[xB] at ho;rcases List.mem_cons.1 ho with rfl|ho
  .exact⟨_,_,_,rfl⟩
  rcases List.mem_cons.1 ho with rfl|ho
  .exact⟨_,_,_,rfl⟩
  cases ho
 have VF:∀u v,boxes [Own.box b4 54 u,Own.box b5 4 v]:=λu v o ho=>by
  rcases List.mem_cons.1 ho with rfl|ho
  .exact⟨_,_,_,rfl⟩
  rcases List.mem_cons.1 ho with rfl|ho
  .exact⟨_,_,_,rfl⟩
  cases ho
 have U:St ⟨w1,I1,19,eS H1⟩ I1 H1 [(5,.val (.pointer (some ⟨b5,0,none⟩))),(4,.val (.pointer (some ⟨b4,0,none⟩))),(3,.ptr [.int key])] a1 w1:=by
  rw[xB];exact U.pick _
 have bz:∀b,eS H1 b->b<w1.heap.size/\I1 b=none:=λb h=>by
  obtain⟨o,ho,e⟩:=va.1 h;exact⟨((U.own.all o ho).2 b e).2.2,((U.own.all o ho).2 b e).2.1⟩
 have Cf:=U;have n7:St _ I1 H1 [(5,.val (.pointer (some ⟨b5,0,none⟩))),(4,.val (.pointer (some ⟨b4,0,none⟩)))] a1 w1:=(hcx.pick _).Aq (by rw[xB];rfl);have fin:∀{D:Nat} {W:World} {a2 a3:Act} {I:Im} {u:List AV} {b:Bool} {Γ:Env},w1.heap.size<=D->St ⟨w1,I1,19,eS H1⟩ I [Own.box b4 54 u,Own.box b5 4 [.bool b]] ((5,.val (.pointer (some ⟨b5,0,none⟩)))::(4,.val (.pointer (some ⟨b4,0,none⟩)))::Γ) a2 W->W.heap[D]?=some (.deferred (some []))->u.length=7->AV.dG [.agg u,.bool b]=.dG [((dY l key).getD default).av,.bool (dY l key).isSome]->
  a3.tmps=a2.tmps->a3.defers=[{target:=.collected D,args:=#[]}]->bodyPostM Fence.wide 3 prog f82 (z1 I0 w0 (.dG [((dY l key).getD default).av,.bool (dY l key).isSome])) .ret a3 W:=λ{D W a2 a3 I u b Γ} hD hi hK hu he h1 h2=>by
  show LeavesInM _ _ _ _ a3.tmps _ a3.defers _ _;rw[h1,h2];exact(n7.un hi).leave (VF _ _) (Nat.le_trans n7.step.below.size hD) hK rfl rfl (.cons (.s 0 bL rfl rfl hu) (.cons (.cc 1 Aj rfl rfl) aV.nil)) he
 refine wpIn_rangeFunc_ownH (n:=3) rfl aP hp9 trivial (rU.of func240 rfl aO) (ae3 l 2 aP I1 w1 U.step.dF (λb=>w1.heap.size<=b\/eS H1 b) (λb cs e h=>h.elim (λh=>by have:=U.step.dF.lt e;omega) λh=>by rw[(bz b h).2] at e;cases e) p hp)
  (λh k=>h.trans k) (λW l o o' h _ _ _=>abO (λb h=>.inl h) W l o' h) (Below.refl _ _) (λ_=>rfl)
  (λpre W=>(∀x∈pre,pV key (ab l x.1.1)=false)/\∃I,St ⟨w1,I1,19,eS H1⟩ I H1 [(5,.val (.pointer (some ⟨b5,0,none⟩))),(4,.val (.pointer (some ⟨b4,0,none⟩))),(3,.ptr [.int key])] a1 W)
  (λc (pre:List (vH l I1)) W=>c=.ret/\∃(x:vH l I1) (q:List (vH l I1)),pre=q++[x]/\(∀y∈q,pV key (ab l y.1.1)=false)/\pV key (ab l x.1.1)=true/\∃I,St ⟨w1,I1,19,eS H1⟩ I [Own.box b4 54 (ab l x.1.1).cells,Own.box b5 4 [AV.bool true]] [(5,.val (.pointer (some ⟨b5,0,none⟩))),(4,.val (.pointer (some ⟨b4,0,none⟩))),(3,.ptr [.int key])] a1 W)
  (λs A B row h hg hr=>⟨h.1,h.2.imp λI k=>k.FC ae hg hr⟩)
  (λc s A B row h hg hr=>by obtain⟨h0,x,q,e,h1,h2,I,k⟩:=h;exact⟨h0,x,q,e,h1,h2,I,k.FC (VF _ _) hg hr⟩)
  ⟨λx h=>(by cases h),I1,U⟩
  (λx a' W=>∃I b7,St ⟨w1,I1,19,eS H1⟩ I (H1++[Own.box b7 54 (ab l x.1.1).cells]) [(7,.val (.pointer (some ⟨b7,0,none⟩))),(5,.val (.pointer (some ⟨b5,0,none⟩))),(4,.val (.pointer (some ⟨b4,0,none⟩))),(3,.ptr [.int key])] a' W)
  (λx a' s A B row h hg hr=>h.imp λI k=>k.imp λb7 k=>k.FC (λo ho=>(List.mem_append.1 ho).elim (ae o) λho=>⟨_,_,_,List.mem_singleton.1 ho⟩) hg hr)
  ?assign ?body ?done ?stop
 case assign=>
  rintro l1 pre x W K ⟨kS,I,hi⟩ hK;have hr:=hi.re;have e:({tmps:=(((#[10,11]:Array Nat).zip #[Value.int .i64 x.1.1,x.1.2]).foldl (λt (p,v)=>t.setIfInBounds p v) a1.tmps),defers:=[]}:Act)=(a1.put (some 10) (.int .i64 x.1.1)).put (some 11) x.1.2:=by
   have:=hi.defers;cases a1;simp at this;subst this;simp[Act.put]
  have U:=(hr.FB (d:=10) (x:=.int x.1.1) (v:=.int .i64 x.1.1) (show 10<19 from by decide) rfl).FB (d:=11) (x:=(ab l x.1.1).av) (v:=x.1.2) (show 11<19 from by decide) ((ab l x.1.1).av.up _ _ _ hi.step.le x.2.2);rw[<-e] at U;have U:=U.Aq xB;refine J0 (by exactλ_ _ h=>h) rfl ?_;refine U.alloc rfl bL ee λb7 I2 a w U=>?_;refine bD λI2 a w U=>?_;have U:St _ I2 (H1++[Own.box b7 54 (ab l x.1.1).cells]) [(7,.val (.pointer (some ⟨b7,0,none⟩))),(5,.val (.pointer (some ⟨b5,0,none⟩))),(4,.val (.pointer (some ⟨b4,0,none⟩))),(3,.ptr [.int key])] a w:=(U.pick _).Aq (by rw[xB];rfl);have hu:=hi.un U;refine wpList_nil (bm ?_);exact hK _ _ ((U.keeps hi.own ae).from _) (hi.Rs U) ⟨kS,_,Cf.back hu hu.step.le⟩ ⟨_,_,hu⟩
 case body=>
  rintro l1 pre x a' W hl _ ⟨kS,_⟩ ⟨I,b7,hi⟩ hlen;have aq:boxes (H1++[Own.box b7 54 (ab l x.1.1).cells]):=λo ho=>(List.mem_append.1 ho).elim (ae o) λho=>⟨_,_,_,List.mem_singleton.1 ho⟩;have U:=hi.re.Aq (H':=[Own.box b4 54 [AV.val (.int .i64 0),AV.val (.int .i64 0),AV.val (.int .i64 0),AV.val (.int .i64 0),AV.val (.int .i64 0),AV.val (.int .i64 0),AV.rows 3 []],Own.box b5 4 [AV.bool false],Own.box b7 54 (ab l x.1.1).cells]) (by rw[xB];rfl);refine wpIn_block (wpIn_seq (J0 (by exactλ_ _ h=>h) rfl ?_));refine bx λI2 a w U=>?_;refine nn ?_;refine wpIn_cond_split (U.env 15 _ rfl) (λhb=>?_) (λhb=>?_)
  .refine wpIn_seq (J0 (by exactλ_ _ h=>h) rfl ?_);refine bD λI2 a w U=>?_;refine U.o (.c1 (yJ _ (hd _ (bh x.2.1)))) λU=>?_;refine aG λI2 a w U=>?_;refine nn (wpIn_ret (xQ ?_));have U:St _ I2 ([Own.box b4 54 (ab l x.1.1).cells,Own.box b5 4 [.bool true]]++[Own.box b7 54 (ab l x.1.1).cells]) [(3,.ptr [.int key])] a w:=U.pick _;have hu:=hi.un U;exact⟨(U.keeps hi.own aq).from _,rfl,x,pre,rfl,kS,hb,_,Cf.back hu hu.step.le⟩
  refine wpIn_skip (z4 ?_);have U:St _ I2 (H1++[Own.box b7 54 (ab l x.1.1).cells]) [(3,.ptr [.int key])] a w:=(U.pick _).Aq (by rw[xB];rfl);have hu:=hi.un U;exact⟨(U.keeps hi.own aq).from _,hi.Rs U,λy hy=>(List.mem_append.1 hy).elim (kS y) λhy=>by rw[List.mem_singleton.1 hy];exact hb,_,Cf.back hu hu.step.le⟩
 case done=>
  rintro D xs W hD ⟨hlen,tD⟩ ⟨kS,I,hi⟩ hK;have MH:dY l key=none:=Ts λi hi=>by
   have hj:l.length-1-i<xs.length:=by omega
   have:=tD _ _ (List.getElem?_eq_getElem hj);have h2:=kS _ (List.getElem_mem hj);rw[show i=xs[l.length-1-i].1.1 from by omega];exact h2
  refine z4 (bm (wpIn_seq (Ao (by exact hQ) rfl ?_)));have e:({a1 with defers:={target:=.collected D,args:=#[]}::a1.defers}:Act)=Act.defer a1 [{target:=.collected D,args:=#[]}]:=by simp[Act.defer,hi.defers]
  rw[e];have U:=hi.re.Aq xB;refine Rn (Q:=Exit.then (λa' W'=>∃I',St ⟨W,I,19,eS H1⟩ I' [Own.box b4 54 [AV.val (.int .i64 0),AV.val (.int .i64 0),AV.val (.int .i64 0),AV.val (.int .i64 0),AV.val (.int .i64 0),AV.val (.int .i64 0),AV.rows 3 []],Own.box b5 4 [.bool false]] [(5,.val (.pointer (some ⟨b5,0,none⟩))),(4,.val (.pointer (some ⟨b4,0,none⟩)))] a' W') (λ_ _ _=>False)) _ (λe a' W' h=>?_) _ _ _ ?_
  .cases e with
   |normal=>
    obtain⟨I',h⟩:=h
    refine bm (wpIn_ret ?_)
    exact fin hD (hi.un h) ((h.keeps hi.own ae).same D _ hK rfl) rfl (by rw[MH];rfl) rfl (by simp[Act.defer,h.defers])
   |_=>exact h.elim
  refine U.o (.bd ee aZ.nil) λU=>?_;refine aG λI2 a w U=>?_;exact wpList_nil (bm ⟨_,U.pick _⟩)
 rintro D c pre W hD VG ⟨rfl,x,q,rfl,hq,gH,I,hi⟩ hK;have hx:x.1.1+1+q.length=l.length:=VG q.length x bn;have MH:dY l key=some (ab l x.1.1):=Tr x.2.1 (λi h1 h2=>by
  have hj:l.length-1-i<q.length:=by omega
  have:=VG (l.length-1-i) q[l.length-1-i] (by rw[List.getElem?_append_left hj,List.getElem?_eq_getElem hj]);have h3:=hq _ (List.getElem_mem hj);rw[show i=q[l.length-1-i].1.1 from by omega];exact h3) gH
 refine wpIn_ret (xQ (z3 ?_));exact fin hD hi hK rfl (by rw[MH];rfl) rfl (by simp[hi.defers])
def VH {s:Server} {m:az} {y:Bool} {v:aA} (h:v.aQ.length<=1048576):ly ⟨4,0,0,m.call,m.key,m.ar,0,y,[],0,0,[v],[],[]⟩:=⟨Nat.zero_le _,⟨by simp,λx hx=>by obtain rfl:=List.mem_singleton.1 hx;exact h⟩,⟨Nat.zero_le _,λ_ h=>by cases h⟩,Nat.zero_le _⟩
def VI (s:Server) (m:az) (v:aA):(v.key==m.key&&v.aj==m.aT-10&&v.call==m.call&&!(bM v.ar.site !=bM s.site))=pS s m.key (m.aT-10) m.call v:=by unfold pS;simp[bne]
def VJ {s:Server} {m:az} {k:Nat} (hk:k<s.an.length) (h:∀i,i<k->pS s m.key (m.aT-10) m.call (ab s.an i)=false) (hp:pS s m.key (m.aT-10) m.call (ab s.an k)=true):kU s m.key (m.aT-10) m.call=some (ab s.an k):=Sv hk h hp
def MI {s:Server} {m:az} {k:Nat} (hk:s.an.length<=k) (h:∀i,i<k->pS s m.key (m.aT-10) m.call (ab s.an i)=false):(kU s m.key (m.aT-10) m.call).isSome=false:=by unfold kU;rw[Sw hk h];rfl
def G0 {s:Server} {m:az} {k:Int} (h:(m.kind==k&&eF (m.aT-10)&&decide (0<m.call)&&fE s m.key)=true):m.kind=k/\(aJ m.aT 10 11&&decide (1<=m.call)&&fE s m.key)=true:=by
 rw[Te] at h;simp only[Bool.and_eq_true,beq_iff_eq,decide_eq_true_eq] at h⊢;exact⟨h.1.1.1,⟨h.1.1.2,by omega⟩,h.2⟩
def VK {s:Server} {m:az} {k:Int} (h:(m.kind==k&&eF (m.aT-10)&&decide (0<m.call)&&fE s m.key)=false) (hk:m.kind=k):(aJ m.aT 10 11&&decide (1<=m.call)&&fE s m.key)=false:=by
 rw[Te,hk] at h;simp only[beq_self_eq_true,Bool.true_and] at h;rw[show decide (1<=m.call)=decide (0<m.call) from by rw[Bool.eq_iff_iff];simp;omega];exact h
def G1 {e:Ev} (h:((e.call==2)&&decide (e.a<e.b))=false):eZ e=[e.a]:=by
 unfold eZ;rw[if_neg];simpa using h
def G2 {e:Ev} (h:((e.call==2)&&decide (e.a<e.b))=true) (h2:¬e.b<e.c):eZ e=[e.a,e.b]:=by
 unfold eZ;rw[if_pos (by simpa using h),if_neg h2]
def G3 {e:Ev} (h:((e.call==2)&&decide (e.a<e.b))=true) (h2:e.b<e.c):eZ e=[e.a,e.b,e.c]:=by
 unfold eZ;rw[if_pos (by simpa using h),if_pos h2]
def ag5 (e:Ev):
 Fn prog 305 [e.av] (jt (eZ e)):=by
 refine Fn.go 33 func305 ntmps305 (λW I a U=>?_);refine bx λI a w U=>?_;refine U.Fl (jG:=[[AV.int e.a]]) rfl kR jH rfl wN rfl rfl rfl (aZ.c rfl rfl .tt (by first|exact j6 rfl|exact kg|exact kh|exact kr) aZ.nil) rfl rfl (by simp only[List.forall_mem_cons];exact⟨rfl,λ_ h=>by simp at h⟩) rfl λb6 I a w U=>?_;refine Ai λI a w U=>?_;refine U.cd (λae=>?_) λae=>?_
 .refine bk λI a w U=>?_;refine U.o (.li [[AV.int e.b]] wN (.v .nil)) λU=>?_;refine U.append 0 rfl kR jH rfl .tt .r rfl bn λUu a w U=>?_;refine iM λI a w U=>?_;refine cz (λah=>?_) λah=>?_
  .refine bk λI a w U=>?_;refine U.o (.li [[AV.int e.c]] wN (.v .nil)) λU=>?_;refine U.append 0 rfl kR jH rfl .tt .r rfl bn λv31 a w U=>?_;refine aR λI a w U=>?_;obtain⟨I,U⟩:=U.fr 0 2;refine U.rt ?_;exact(by rw[G3 ae ah];rfl)
  refine aF λI a w U=>?_;obtain⟨I,U⟩:=U.fr 0 2;refine U.rt ?_;exact(by rw[G2 ae (by simpa using ah)];rfl)
 refine aF λI a w U=>?_;obtain⟨I,U⟩:=U.fr 0 2;refine U.rt ?_;exact(by rw[G1 ae];rfl)
end Go.Proofs.YtldbakcpcfdlaaaGreat
