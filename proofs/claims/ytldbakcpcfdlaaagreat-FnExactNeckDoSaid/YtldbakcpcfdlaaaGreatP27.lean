/- Part 27: contracts of functions, plain facts. -/
import Derived.Test.YtldbakcpcfdlaaaGreatP21
import Derived.Test.YtldbakcpcfdlaaaGreatP22
set_option linter.all false
set_option maxRecDepth 100000
set_option maxHeartbeats 4000000
namespace Go.Proofs.YtldbakcpcfdlaaaGreat
open Go Go.RowKit Tryz
attribute [local irreducible] wpList Code.wp Ok
def Iu (q:Call) (time:Int) (ht:time<=4611686018427387904):
 Fn prog 150 [q.av,AV.int time] (AV.bool (fK q time)):=by
 refine Fn.go 125 func150 ntmps150 (λW I a U=>?_);have lens:q.keys.length<=9223372036854775807/\q.au.length<=9223372036854775807/\q.aO.length<=9223372036854775807:=⟨U.ln 0 3,U.ln 0 11,U.ln 0 12⟩;refine aR λI a w U=>?_;refine U.o (.c1 (zP ..)) λU=>?_;refine aR λI a w U=>?_;refine U.q .F (.cl (im ..)) λU=>?_;refine aR λI a w U=>?_;refine U.q .F (.cl (Yj ..)) λU=>?_;refine bV λI a w U=>?_;refine U.q .F (.cl (im ..)) λU=>?_;refine bV λI a w U=>?_;refine U.q .F (.cl (Aa ..)) λU=>?_;refine bV λI a w U=>?_;refine U.q .F (.cl (Aa ..)) λU=>?_;refine df λI a w U=>?_;refine U.q .F (.cl (im ..)) λU=>?_;refine bV λI a w U=>?_;refine U.q .F (.cl (Oy ..)) λU=>?_;refine aR λI a w U=>?_;refine U.q .F (.cl (abb ..)) λU=>?_;refine ax λI a w U=>?_;refine U.cd (λab=>?_) λab=>?_
 .rw[Oa] at ab;replace ab:=nt ab;refine aW ?_;exact bT (by unfold fK;rw[ab];rfl)
 rw[Oa] at ab;replace ab:=nf ab;refine Bq λI a w U=>?_;refine U.q .T (cr .ag .ag (λhg=>by have:=aaP ab;omega)) λU=>?_;refine Bq λI a w U=>?_;refine U.q .F2 (.cl (uV ..)) λU=>?_;refine aU λI a w U=>?_;refine U.cd (λah=>?_) λah=>?_
 .rw[M4] at ah;replace ah:=nt ah;refine aW ?_;exact bT (by unfold fK;rw[ab,ah];rfl)
 rw[M4] at ah;replace ah:=nf ah;refine aI λI a w U=>?_;refine cz (λai=>?_) λai=>?_
 .refine aA λI a w U=>?_;refine U.o (.c1 (uV ..)) λU=>?_;refine aW ?_;exact bT (by unfold fK nQ;rw[ab,ah,if_pos ai];rfl)
 refine fm λI a w U=>?_;refine U.q .F (cr .ag .c (λhg=>by have:=Yi ab;omega)) λU=>?_;refine U.q .F .mv λU=>?_;refine U.q .F (.cl (im ..)) λU=>?_;refine et λI a w U=>?_;refine U.cd (λaG=>?_) λaG=>?_
 .refine aW ?_;exact bT (by unfold fK nQ;rw[ab,ah,if_neg ai,aG];rfl)
 refine aR λI a w U=>?_;refine U.q .T (.cl (uV ..)) λU=>?_;refine fm λI a w U=>?_;refine U.q .T2 (.cl (Nu ..)) λU=>?_;refine ry ?_;exact bT (by unfold fK nQ;rw[ab,ah,if_neg ai,aG];rfl)
def PT (l:List Call) (time:Int) (ht:time<=4611686018427387904) (hl:l.length<=1048576) (dV:∀q∈l,db q.aB):
 Fn prog 73 [jb l,AV.int time] (AV.bool (iX l time)):=by
 refine Fn.go 86 func73 ntmps73 (λW I a U=>?_);refine al λI a w U=>?_;refine U.makeMap rfl Cu λjD a w U=>?_;rw[show(λ_:Int=>(0:Int))=gn l 0 from(GH l).symm] at U;refine aU λI a w U=>?_;refine St.lo (σ:=Nat) (4::(run 2 6 (9::(run 70 13 [])))) ⟨λk=>[(13,AV.int k)],λk=>[Own.uy prog 3 3 (λx:Int=>Lit.int .i64 x) (λx:Int=>.lit (.int .i64 x)) 0 jD (k) (gn l (k))],λk=>k<=l.length/\∀i,i<k->(my l time) i=true⟩ (λk=>l.length-k) 0 U ?aD ?bh;case aD=>exact⟨Nat.zero_le _,λi hi=>by omega⟩
 rintro k I a w aj U;obtain⟨qD,aT⟩:=aj;refine al λI a w U=>?_;refine cz (λab=>?_) λab=>?_
 .refine aV λI a w U=>?_;refine U.alloc rfl dm g0 λb7 I a w U=>?_;refine ax λI a w U=>?_;obtain⟨I,U⟩:=U.fb 1 7;refine aV λI a w U=>?_;refine U.o (Kc 0 Cu .tt (EU sW .tt (dV _ (bK ab))) rfl) λU=>?_;refine U.o (cr .tt .c (λ_=>by have:=CI l k (ae l k).aB;omega)) λU=>?_;refine U.mapUpdate 0 Cu .tt (EU sW .tt (dV _ (bK ab))) .tt (by have:=CI l k (ae l k).aB;omega) om rfl λa w U=>?_;rw[W2 ab] at U;refine nn<|wp_seq<|wp_seq<|U.dk ?_;refine cy ?_;refine .o (.c2 (Iu _ _ ht)) ?_;refine n5 ?_;refine gS ?_;refine .q .F (Kc 0 Cu .ag (EU sW .ag (dV _ (bK ab))) rfl) ?_;refine cy ?_;refine .nil ?_;intro I a w U;refine ba ?_;refine U.cd (λah=>?_) λah=>?_
  .rw[Oc] at ah;replace ah:=nt ah;refine aW ?_;exact bT (by unfold iX;rw[fI (f:=my l time) ab (by unfold my;rw[ah];rfl)];rfl)
  rw[Oc] at ah;replace ah:=nf ah;refine aA λI a w U=>?_;refine U.o (AY gz dm .r .tt (λ_=>by rw[List.length_map];omega)) λU=>?_;rw[<-List.map_take,Int.toNat_natCast] at U;have A8:(l.take k).length=k:=by simp;omega
  refine ax λI a w U=>?_;refine St.lo (σ:=Nat) (4::(9::(run 27 55 []))) ⟨λk2=>[(55,AV.int k2)],λk2=>[Own.uy prog 3 3 (λx:Int=>Lit.int .i64 x) (λx:Int=>.lit (.int .i64 x)) 0 jD (k+1) (gn l (k+1)),Own.gone],λk2=>k2<=k/\∀i,i<k2->(λj=>!lP (ae l j) (ae l k)) i=true⟩ (λk2=>k-k2) 0 U ?eL ?jX;case eL=>exact⟨Nat.zero_le _,λi hi=>by omega⟩
  rintro k2 I a w aj U;obtain⟨xl,iW⟩:=aj;refine al λI a w U=>?_;refine cz (λai=>?_) λai=>?_
  .refine aA λI a w U=>?_;refine U.alloc rfl dm g0 λb9 I a w U=>?_;refine al λI a w U=>?_;obtain⟨I,U⟩:=U.fb 2 9;refine Sf λI a w U=>?_;refine U.cd (λaG=>?_) λaG=>?_
   .change lP (ae (l.take k) k2) (ae l k)=true at aG;rw[M6 om] at aG;refine aW ?_;exact bT (by unfold iX;rw[fI (f:=my l time) ab (by unfold my;rw[fI (f:=λj=>!lP (ae l j) (ae l k)) (k:=k2) om (by rw[aG];rfl)];simp)];rfl)
   change lP (ae (l.take k) k2) (ae l k)=false at aG;rw[M6 om] at aG;refine ax λI a w U=>?_;have U:=U.drop 2;exact U.ag (k2+1) (⟨by omega,gf iW (by rw[aG];rfl)⟩)
  refine zt ?_;refine ax λI a w U=>?_;have U:=U.drop 1;exact U.ag (k+1) (⟨by omega,gf aT (by unfold my;rw[ah,fD iW om];rfl)⟩)
 refine zt ?_;refine aU λI a w U=>?_;refine U.rt ?_;exact bT (by unfold iX;rw[fD aT om,Wx];rfl)
def PU (x:aM) (hf:x.Fit) (hl:x.calls.length<=1048576):
 Fn prog 23 [x.av] (AV.bool (fN x)):=by
 refine Fn.go 62 func23 ntmps23 (λW I a U=>?_);have lens:x.aF.length<=9223372036854775807/\x.aC.length<=9223372036854775807/\x.calls.length<=9223372036854775807/\x.seen.length<=9223372036854775807:=⟨U.ln 0 1,U.ln 0 2,U.ln 0 3,U.ln 0 4⟩;refine aR λI a w U=>?_;refine U.o (.cl (im ..)) λU=>?_;refine Se λI a w U=>?_;refine U.cd (λab=>?_) λab=>?_
 .replace ab:pt x=false:=by unfold pt;rw[ab];rfl
  refine aW ?_;exact bT (by unfold fN;rw[ab];rfl)
 replace ab:pt x=true:=by unfold pt;rw[ab];rfl
 refine aU λI a w U=>?_;refine St.lo (σ:=Nat) (run 3 2 (run 15 30 [])) ⟨λk=>[(30,AV.int k)],λk=>[],λk=>k<=x.aF.length/\∀i,i<k->(qx x) i=true⟩ (λk=>x.aF.length-k) 0 U ?aD ?bh;case aD=>exact⟨Nat.zero_le _,λi hi=>by omega⟩
 rintro k I a w aj U;obtain⟨qD,aT⟩:=aj;refine al λI a w U=>?_;refine cz (λah=>?_) λah=>?_
 .refine aV λI a w U=>?_;refine U.alloc rfl bL di λb4 I a w U=>?_;refine ax λI a w U=>?_;obtain⟨I,U⟩:=U.fb 0 4;refine df λI a w U=>?_;refine U.q .F (.cl (vh ..)) λU=>?_;refine ax λI a w U=>?_;refine U.cd (λai=>?_) λai=>?_
  .rw[Ge] at ai;replace ai:=nt ai;refine aW ?_;exact bT (by unfold fN;rw[fI (f:=qx x) ah ai];simp)
  rw[Ge] at ai;replace ai:=nf ai;refine ax λI a w U=>?_;have U:=U.drop 0;exact U.ag (k+1) (⟨by omega,gf aT ai⟩)
 refine zt ?_;refine aA λI a w U=>?_;refine U.o (.cl (WW x.aC uM _ (λm hm=>Fn.JQ (abc m (hf.1 m hm).1 (hf.1 m hm).2)))) λU=>?_;refine aR λI a w U=>?_;refine U.q .T (.cl (WX x.seen uN _ (λm _=>Fn.JQ (YF m)))) λU=>?_;refine fm λI a w U=>?_;refine U.q .T (bx (PT x.calls x.time (by have:=Vd ab;omega) hl hf.2) (an .ag (an .ag aH))) λU=>?_;refine cK ?_;exact bT (by unfold fN;rw[ab,fD aT om];rfl)
def eB.oJ {q:Call} {t:Int} (h:eB q t) (hw:hX q=true) (hb:q.bw<t) (hk:q.kind≠1) {a:Answer} (ha:eh a=true) (jf:gJ q.keys a.key=true) (hn:cQ q a.key<0):eB (oJ q a t) t:=by
 obtain⟨he,ho⟩:=w3 hw;obtain⟨tP,bW⟩:=HC h jf hn;have bH:∀x∈q.au,x.key≠a.key:=λx hx e=>by
  have:=Cj (q:=q) (key:=a.key).2 ⟨x,hx,e⟩;omega
 have bJ:eH q.aw=true:=h.open_ he;have tK:∀x∈dF q.au a,eh x=true:=λx hx=>by
  rcases uQ.1 hx with rfl|hx
  .exact ha
  exact h.cX x hx
 have vp:∀x∈dF q.au a,gJ q.keys x.key=true:=λx hx=>by
  rcases uQ.1 hx with rfl|hx
  .exact jf
  exact h.has x hx
 have sq:=Gh h.sorted bH;have h1:eB {q with au:=dF q.au a} t:=
  ⟨h.aB,h.num,h.keys,h.val,h.ctx,h.aO,h.bw,h.fits,vp,sq,tK,λd hd=>by have:d∈q.aO:=hd;rw[tP] at this;simp at this,.inl tP,λe=>absurd e hk,h.read,h.open_,λe=>absurd he e⟩
 unfold Go.Proofs.YtldbakcpcfdlaaaGreat.oJ;dsimp only;split
 .exact h1
 rename_i hlen;have hl:(dF q.au a).length=q.keys.length:=by rw[uR];have:¬(dF q.au a).length<q.keys.length:=hlen;rw[uR] at this;omega
 have Dk:∀key,rP (cB (fw {q with au:=dF q.au a}) key):=λkey=>by
  have:=(su (l:=dF q.au a) (acc:=[]) rfl tK);exact sg this.1 key
 have dG:ck (lB {q with au:=dF q.au a})=true:=Hd _ Dk sq (λx hx=>by have:=ZN h (vp x hx);omega) tK;have De:∀d∈lB {q with au:=dF q.au a},rW {q with au:=dF q.au a} d=true:=λd hd=>by
  obtain⟨x,hx,e,hls⟩:=XC hd;refine(Hc sq).2 ⟨x,hx,by rw[e],?_⟩;unfold nM;rw[hls];simp
 unfold mY;split
 .rename_i h0;have h0:q.aO++lB {q with au:=dF q.au a}=[]:=h0;exact⟨h.aB,h.num,h.keys,h.val,h.ctx,by show ck (q.aO++_)=true;rw[h0];rfl,h.bw,h.fits,vp,sq,tK,λd hd=>by have:d∈q.aO++_:=hd;rw[h0] at this;simp at this,.inl h0,λe=>absurd e hk,h.read,λ_=>bJ,
   λ_=>⟨ho,⟨by show q.bw+1<=t;omega,Int.le_refl _⟩,h0,λe=>absurd e hk,λ_=>hl⟩⟩
 exact⟨h.aB,h.num,h.keys,h.val,h.ctx,by show ck (q.aO++_)=true;rw[tP];exact dG,h.bw,h.fits,vp,sq,tK,λd hd=>De d (by have:d∈q.aO++_:=hd;rwa[tP] at this),.inr hl,λe=>absurd e hk,h.read,h.open_,λe=>absurd he e⟩
def Dv {q:Call} {m:az} {t:Int} (h:eB q t):eB (ej q m t) t:=by
 unfold ej;split
 .rename_i hc;simp only[Bool.and_eq_true,decide_eq_true_eq] at hc;obtain⟨⟨⟨⟨⟨hm,_⟩,_⟩,jf⟩,hw⟩,hb⟩:=hc;obtain⟨he,ho⟩:=w3 hw;split
  .rename_i hk;split
   .rename_i U;obtain⟨hg,tP⟩:=h.put hk;exact⟨h.aB,h.num,h.keys,h.val,h.ctx,h.aO,h.bw,Ae U.2,h.has,h.sorted,h.cX,h.xr,h.full,h.put,λe=>absurd hk e,λe=>by have:t=0:=e;have:=h.bw;omega,
     λ_=>⟨ho,⟨by show q.bw+1<=t;omega,Int.le_refl _⟩,tP,λ_=>Wz U.2,λe=>absurd hk e⟩⟩
   exact h
  rename_i hk;unfold jW;split
  .rename_i hr;have hg:=GV (q:=q) hm hr.2;split
   .rename_i hn;split
    .exact h.oJ hw hb hk hg jf hn
    exact h
   split
   .rename_i hy;exact h.ov hw hb hk hg hy
   exact h
  exact h
 exact h
def ab7 (q:Call) (m:az) (t:Int):(ej q m t).aB=q.aB/\(ej q m t).num=q.num/\(ej q m t).bw=q.bw/\(ej q m t).over=q.over/\(ej q m t).ctx=q.ctx/\(ej q m t).keys=q.keys/\(ej q m t).kind=q.kind:=by
 have e:∀q':Call,∀t,(mY q' t).aB=q'.aB/\(mY q' t).num=q'.num/\(mY q' t).bw=q'.bw/\(mY q' t).over=q'.over/\(mY q' t).ctx=q'.ctx/\(mY q' t).keys=q'.keys/\(mY q' t).kind=q'.kind:=λq' t=>by
  unfold mY;split<;>exact⟨rfl,rfl,rfl,rfl,rfl,rfl,rfl⟩
 unfold ej jW oJ ov;dsimp only;repeat' split
 all_goals first|exact⟨rfl,rfl,rfl,rfl,rfl,rfl,rfl⟩|exact e _ _
def ab8 (s:Server) (hg:bE s):
 Fn prog 237 [s.av] (dW (lD s)):=by
 refine Fn.go 129 func237 ntmps237 (λW I a U=>?_);have U:=U.en (sz:=15) 108;have U:=U.en (sz:=3) 125;have aj:=iU.2 hg;have c6:=hg.ok;have hZ:=hg.small;have lens:s.aQ.length<=9223372036854775807/\s.ar.length<=9223372036854775807/\s.waits.length<=9223372036854775807/\s.aE.length<=9223372036854775807/\s.bq.length<=9223372036854775807:=⟨U.ln 0 2,U.ln 0 3,U.ln 0 4,U.ln 0 5,U.ln 0 6⟩;have h3:=hg.aQ;have Ao:=gV hg.ar;have ki:=gV hg.waits;have jM:=hP hg.aE;have pU:∀v∈s.waits,v.aK.length<=6:=λv hv=>gU (kT (g7 hg.waits v hv)).2.2;have hsd:=GO hg.site;refine aV λI a w U=>?_;refine U.o (.c1 (vh s)) λU=>?_;refine gy λI a w U=>?_;refine U.cd (λab=>?_) λab=>?_
 .rw[CM] at ab;replace ab:=nt ab;refine al λI a w U=>?_;refine U.ret rfl (.cons (.nil (sz:=15) rfl) aZ.nil) ?_;exact(by rw[aj,Bool.true_and] at ab;rw[PC ab];rfl)
 rw[CM] at ab;replace ab:=nf ab;rw[Bool.and_eq_true] at ab;refine bP λI a w U=>?_;refine St.lo (σ:=Nat×Value) (run 3 3 (run 15 27 [])) ⟨λ⟨n,v⟩=>[(27,AV.int n),(3,AV.val v)],λ⟨n,v⟩=>[Own.row v 108 15 ((nT s n).map az.cells),Own.row (.slice none 0 0) 125 3 ([])],λ⟨n,v⟩=>n<=s.aQ.length⟩ (λ⟨n,v⟩=>s.aQ.length-n) (0,(.slice none 0 0)) U ?aD ?bh;case aD=>exact Nat.zero_le _
 rintro⟨n,v⟩ I a w aj U;have hn:n<=s.aQ.length:=aj;dsimp only at U;refine al λI a w U=>?_;refine cz (λah=>?_) λah=>?_
 .refine aV λI a w U=>?_;refine U.alloc rfl dP kD λb5 I a w U=>?_;refine ax λI a w U=>?_;obtain⟨I,U⟩:=U.fb 2 5;refine aI λI a w U=>?_;refine cz (λai=>?_) λai=>?_
  .refine aV λI a w U=>?_;refine U.o (bx (OB s (n:Int) hZ hg.site h3 om) (an (.t rfl) (an (.t rfl) aH))) λU=>?_;refine U.o (.li [(gE s (n:Int)).cells] gj (.u .nil)) λU=>?_;refine U.append 0 rfl dC cH rfl .tt .r rfl (by have:=Hn s n;simp;omega) λM3 a w U=>?_;rw[cA,OD (by simpa using ai)] at U;refine aI λI a w U=>?_;have U:=U.drop 2;exact U.ag (n+1,M3) (ah)
  refine ax λI a w U=>?_;have U:=U.drop 2;rw[OE (by simpa using ai)] at U;exact U.ag (n+1,v) (ah)
 refine wp_exit<|bU<|bU<|eb<|ba<|wp_seq ?_;rw[OH om] at U;refine aA λI a w U=>?_;refine U.o (.c1 (z9 _)) λU=>U.o .E3 λU=>?_;refine U.o (tW .c .tt (λ_=>by omega)) λU=>?_;refine al λI a w U=>?_;rw[show 2*(1-cv s.site)=2-2*cv s.site by omega] at U;refine aU λI a w U=>?_;refine St.lo (σ:=Nat×Value) (3::(run 3 8 (run 35 50 []))) ⟨λ⟨k,v⟩=>[(50,AV.int k),(3,AV.val v)],λ⟨k,v⟩=>[Own.row v 108 15 ((ic s k).map az.cells),Own.row (.slice none 0 0) 125 3 ([])],λ⟨k,v⟩=>k<=s.aE.length⟩ (λ⟨k,v⟩=>s.aE.length-k) (0,v) U ?eL ?jX;case eL=>exact Nat.zero_le _
 rintro⟨k,v⟩ I a w aj U;have hk:k<=s.aE.length:=aj;dsimp only at U;refine al λI a w U=>?_;refine cz (λaG=>?_) λaG=>?_
 .refine aA λI a w U=>?_;refine U.alloc rfl cM fE λb8 I a w U=>?_;refine al λI a w U=>?_;obtain⟨I,U⟩:=U.fb 2 8;refine aV λI a w U=>?_;refine U.o (.c2 (wP s (ae s.aE k).key h3)) λU=>?_;refine al λI a w U=>?_;refine U.cd (λaL=>?_) λaL=>?_
  .replace aL:=nt aL;refine zt ?_;refine ax λI a w U=>?_;have U:=U.drop 2;rw[YX aG aL (We hg (bK aG))] at U;exact U.ag (k+1,v) (aG)
  replace aL:=nf aL;refine zt ?_;obtain⟨vd,qK,Ar,nL⟩:=Nf hg (bK aG);obtain⟨ux,hp1,hp2⟩:=WD qK;refine U.da 9 ?_;simp only[TD];refine fQ ?_;refine .o (.cl (qp s.ar (ae s.aE k))) ?_;refine cy ?_;refine fO.alloc bI dY<|.nil ?_;intro I a w U;obtain⟨b9,U⟩:=U.sQ (d:=9) rfl;refine al λI a w U=>?_;obtain⟨I,U⟩:=U.fb 3 9;rw[hp2] at U;rw[show ic s k=ic s k++(jY s (ae s.aE k)).take 0 from by simp] at U;refine ax λI a w U=>?_;refine St.lo (σ:=Nat×Int×Value) (3::(10::(run 16 68 []))) ⟨λ⟨j,t,v2⟩=>[(10,AV.int t),(3,AV.val v2)],λ⟨j,t,v2⟩=>[Own.row v2 108 15 ((ic s k++(jY s (ae s.aE k)).take j).map az.cells),Own.row (.slice none 0 0) 125 3 ([]),Own.gone,Own.gone],λ⟨j,t,v2⟩=>j<=2/\t=2-2*cv s.site+(j:Int)⟩ (λ⟨j,t,v2⟩=>2-j) (0,2-2*cv s.site,v) U ?iA ?oL;case iA=>exact⟨Nat.zero_le _,by simp⟩
  rintro⟨j,t,v2⟩ I a w aj U;obtain⟨hj,rfl⟩:=aj;dsimp only at U;refine aU λI a w U=>?_;refine cz (λbc=>?_) λbc=>?_
  .refine bV λI a w U=>?_;refine U.o (.li [vd.cells] j9 (.u .nil)) λU=>?_;refine U.o (.bd dN (.k (.k (.k (.k bf.nil))))) λU=>?_;refine U.o (.c1 (Ac {cg with kind:=5,bj:=s.site,to:=2-2*cv s.site+(j:Int),ar:=[vd]} (XH (hZ.2.1.2 vd nL)))) λU=>?_;refine U.o (.li [({cg with kind:=5,bj:=s.site,to:=2-2*cv s.site+(j:Int),ar:=[vd]}:az).cells] gj (.u .nil)) λU=>?_;refine U.append 0 rfl dC cH rfl .tt .r rfl (by have:=xo s k hk;simp;omega) λOQ a w U=>?_;rw[cA,OI (Ci aL).2 qK om] at U;refine aU λI a w U=>?_;exact U.ag (j+1,2-2*cv s.site+(j:Int)+1,OQ) (⟨by show j+1<=2;omega,by simp;omega⟩)
  refine zt ?_;refine ax λI a w U=>?_;have U:=U.drop 2;rw[OJ aG om] at U;exact U.ag (k+1,v2) (aG)
 refine zt ?_;refine al λI a w U=>?_;rw[PD om] at U;refine aU λI a w U=>?_;refine St.lo (σ:=Nat×Value×Value) (3::(11::(13::(15::(run 40 88 []))))) ⟨λ⟨i,v,u⟩=>[(88,AV.int i),(3,AV.val v),(11,AV.val u)],λ⟨i,v,u⟩=>[Own.row v 108 15 ((m7 s (mr s i)).map az.cells),Own.row u 125 3 ((mr s i).map ao.cells)],λ⟨i,v,u⟩=>i<=s.waits.length⟩ (λ⟨i,v,u⟩=>s.waits.length-i) (0,v,(.slice none 0 0)) U ?Ay ?PM;case Ay=>exact Nat.zero_le _
 rintro⟨i,v,u⟩ I a w aj U;have hi:i<=s.waits.length:=aj;dsimp only at U;refine al λI a w U=>?_;refine cz (λaY=>?_) λaY=>?_
 .refine aA λI a w U=>?_;refine U.alloc rfl bI dY λxc I a w U=>?_;refine al λI a w U=>?_;obtain⟨I,U⟩:=U.fb 2 13;refine aU λI a w U=>?_;refine St.lo (σ:=Nat×Value×Value) (3::(11::(15::(run 32 95 [])))) ⟨λ⟨j,v2,u2⟩=>[(95,AV.int j),(3,AV.val v2),(11,AV.val u2)],λ⟨j,v2,u2⟩=>[Own.row v2 108 15 ((m7 s (ix s i j)).map az.cells),Own.row u2 125 3 ((ix s i j).map ao.cells),Own.gone],λ⟨j,v2,u2⟩=>j<=(ae s.waits i).aK.length⟩ (λ⟨j,v2,u2⟩=>(ae s.waits i).aK.length-j) (0,v,u) U ?Ig ?abC;case Ig=>exact Nat.zero_le _
  rintro⟨j,v2,u2⟩ I a w aj U;have hj:j<=(ae s.waits i).aK.length:=aj;have hdj:=pU _ (bK aY);dsimp only at U;refine al λI a w U=>?_;refine cz (λbz=>?_) λbz=>?_
  .refine aA λI a w U=>?_;refine U.alloc rfl cM fE λHa I a w U=>?_;refine al λI a w U=>?_;obtain⟨I,U⟩:=U.fb 3 15;refine aA λI a w U=>?_;refine U.o (.c2 (LD s (ae (ae s.waits i).aK j))) λU=>?_;refine aR λI a w U=>?_;refine U.q .T (Bo 1 (an .ag (an .ag aH)) rfl (zE (ix s i j) (ae (ae s.waits i).aK j)) (λ_ _ _ h=>h)) λU=>?_;refine ax λI a w U=>?_;refine U.cd (λbR=>?_) λbR=>?_
   .rw[MI] at bR;refine aA λI a w U=>?_;refine U.o (.li [(ae (ae s.waits i).aK j).cells] gM (.u .nil)) λU=>?_;refine U.append 1 rfl dw cM rfl .tt .r rfl (by have:=w5 pU i hi;have:=zW s i j;have:=pU _ (bK aY);simp;omega) λaca a w U=>?_;rw[cA,show ix s i j++[(ae (ae s.waits i).aK j)]=ix s i (j+1) from by rw[w4 bz,Cm bR]] at U;refine al λI a w U=>?_;refine U.dt 12 ?_;simp only[TD];refine fQ ?_;refine .o (.c1 (Hm _ hg.site)) ?_;refine ef ?_;refine .o (.bd dN (.k (.k (.k (.k (.t bf.nil)))))) ?_;refine .o (.li [(lQ s (ae (ae s.waits i).aK j)).cells] gj (.u .nil)) ?_;refine .nil ?_;intro I a w U;refine U.append 0 rfl dC cH rfl .tt .r rfl (by have:=w5 pU i hi;have:=zW s i j;have:=pU _ (bK aY);have:=xo s _ (Nat.le_refl s.aE.length);simp[m7];omega) λacb a w U=>?_;rw[cA,PA,show ix s i j++[(ae (ae s.waits i).aK j)]=ix s i (j+1) from by rw[w4 bz,Cm bR]] at U;refine aI λI a w U=>?_;have U:=U.drop 3;exact U.ag (j+1,acb,aca) (bz)
   rw[MI] at bR;refine ax λI a w U=>?_;have U:=U.drop 3;rw[show ix s i j=ix s i (j+1) from by rw[w4 bz,MH bR]] at U;exact U.ag (j+1,v2,u2) (bz)
  refine zt ?_;refine ax λI a w U=>?_;have U:=U.drop 2;rw[Gl aY om] at U;exact U.ag (i+1,v2,u2) (aY)
 refine wp_exit<|bU<|bU<|eb<|ba<|wp_seq ?_;rw[Gm s om,H6 ab.2 h3] at U;obtain⟨I,U⟩:=U.fr 0 3;refine cK ?_;rfl
def acd (q:Call) (n:Value) (x:Answer) (t:Int) (hg:∀y∈q.au,eh y=true) (hx:eh x=true) (hl:q.au.length<=1048575) (gr:q.keys.length<=1048576) (hn:q.aO.length<=1048576):
 er prog 328 [q.wU n,x.av,AV.int t] [Own.row n 125 3 (q.aO.map ao.cells)] [] (oJ q x t).av:=by
 refine bG.intro 62 func328 rfl ntmps328 rfl aq (λW I a U=>?_);refine sr<|U.box rfl .tt λb3 I a w U=>U.o .bp λU=>U.alloc rfl dm g0 λb6 I a w U=>?_;refine zt ?_;refine U.l0 λjD I a w U=>?_;refine aI λI a w U=>?_;refine St.lo (σ:=Nat×Bool×List Answer×Value) (run 3 7 (run 32 11 [])) ⟨λ⟨k,done,out,v⟩=>[(9,AV.int k),(8,AV.bool done),(7,AV.val v)],λ⟨k,done,out,v⟩=>[Own.row n 125 3 (q.aO.map ao.cells),Own.box b3 45 [AV.int q.aB,AV.int q.num,AV.int q.kind,fM q.keys,AV.int q.val,bm q.ctx,AV.int q.bw,AV.int q.end_,AV.bool q.over,AV.int q.aw.time,AV.int q.aw.site,j7 q.au,AV.val n],Own.box b6 45 [AV.val (.int .i64 0),AV.val (.int .i64 0),AV.val (.int .i64 0),AV.rows 1 [],AV.val (.int .i64 0),AV.rows 3 [],AV.val (.int .i64 0),AV.val (.int .i64 0),AV.val (.bool false),AV.val (.int .i64 0),AV.val (.int .i64 0),AV.rows 9 [],AV.rows 3 []],Own.row v 56 9 (out.map Answer.cells)],λ⟨k,done,out,v⟩=>mo q.au x k done out⟩ (λ⟨k,done,out,v⟩=>q.au.length-k) (0,false,[],.slice (some ⟨jD,0,none⟩) 0 0) U ?aD ?bh;case aD=>exact mo.zero q.au x
 rintro⟨k,done,out,v⟩ I a w aj U;have hp:mo q.au x k done out:=aj;have hk:=hp.hk;have jM:=hp.len;have qc:done.toNat<=1:=by cases done<;>simp
 dsimp only at U;refine bP λI a w U=>?_;refine cz (λab=>?_) λab=>?_
 .refine al λI a w U=>?_;refine cz (λah=>?_) λah=>?_
  .refine aA λI a w U=>?_;refine U.o (.li [x.cells] rB (.u .nil)) λU=>?_;refine U.ap 3 λv34 a w U=>?_;rw[cA] at U;refine lJ λI a w U=>?_;refine U.o (.li [(ae q.au k).cells] rB (.u .nil)) λU=>?_;refine U.ap 3 λnV a w U=>?_;rw[cA] at U;refine aU λI a w U=>?_;exact U.ag (k+1,true,(out++[x])++[ae q.au k],nV) (by obtain⟨h1,h2⟩:=ah;subst h1;exact hp.before ab h2)
  refine df λI a w U=>?_;refine U.o (.li [(ae q.au k).cells] rB (.u .nil)) λU=>?_;refine U.ap 3 λnV a w U=>?_;rw[cA] at U;refine aU λI a w U=>?_;exact U.ag (k+1,done,out++[ae q.au k],nV) (hp.step ab (by rcases ah with h|h;exact .inl h;exact .inr om))
 refine wp_exit<|bU<|bU<|eb<|ba ?_;refine St.cut (σ:=Value) (7::(run 6 43 [])) ⟨λv=>[(7,AV.val v)],λv=>[Own.row n 125 3 (q.aO.map ao.cells),Own.box b3 45 [AV.int q.aB,AV.int q.num,AV.int q.kind,fM q.keys,AV.int q.val,bm q.ctx,AV.int q.bw,AV.int q.end_,AV.bool q.over,AV.int q.aw.time,AV.int q.aw.site,j7 q.au,AV.val n],Own.box b6 45 [AV.val (.int .i64 0),AV.val (.int .i64 0),AV.val (.int .i64 0),AV.rows 1 [],AV.val (.int .i64 0),AV.rows 3 [],AV.val (.int .i64 0),AV.val (.int .i64 0),AV.val (.bool false),AV.val (.int .i64 0),AV.val (.int .i64 0),AV.rows 9 [],AV.rows 3 []],Own.row v 56 9 ((dF q.au x).map Answer.cells)],λv=>True⟩ U ?Iv ?ace;case Iv=>
  refine ax λI a w U=>?_;refine cz (λai=>?_) λai=>?_
  .refine aA λI a w U=>?_;refine U.o (.li [x.cells] rB (.u .nil)) λU=>?_;refine U.ap 3 λHV a w U=>?_;rw[cA] at U;refine al λI a w U=>?_;first|rw[show out++[x]=dF q.au x from by subst ai;exact hp.rZ om] at U|rw[show out=dF q.au x from by subst ai;exact hp.rY om] at U
   exact U.me HV k0
  refine zt ?_;first|rw[show out++[x]=dF q.au x from by subst ai;exact hp.rZ om] at U|rw[show out=dF q.au x from by subst ai;exact hp.rY om] at U
  exact U.me v k0
 rintro v I a w aj U;refine wp_seq ?_;obtain⟨I,U⟩:=U.fr 3 7;refine aA λI a w U=>?_;try have aax:=U.cU 3 rfl
 refine et λI a w U=>?_;refine cz (λaG=>?_) λaG=>?_
 .refine wp_seq ?_;obtain⟨I,U⟩:=U.fu 0 12 1;refine ax λI a w U=>?_;refine U.cE () [] rfl (.cons (.sx 2) .nil) trivial rfl ?_;exact(by unfold oJ;dsimp only;rw[if_pos (by simpa using aG)];rfl)
 refine aA λI a w U=>?_;refine U.eX [0] (aaI {q with au:=dF q.au x} n t (λy hy=>(uQ.1 hy).elim (λe=>e▸hx) (hg y)) (by show(dF q.au x).length<=_;rw[uR];omega) hn) (an .tt (an .tt aH)) rfl bA rfl λI a w U=>?_;refine al λI a w U=>?_;refine U.cE () [] rfl (.cons (.sx 2) .nil) trivial rfl ?_;exact(by unfold oJ;dsimp only;rw[if_neg (by simpa using aG)];rfl)
def acf {q:Call} {m:az} {t t0:Int} (h:eB q t0) (hv:m.kind=4/\(m.yes=true->m.ar.length=1/\(ae m.ar 0).key=m.key)) (jf:gJ q.keys m.key=true) (hb:(decide (cQ q m.key<0)&&eH m.aw)=true) (ha:oG {q with au:=dF q.au (dZ m)}=false):jW q m t={q with au:=dF q.au (dZ m)}:=by
 rw[Bool.and_eq_true,decide_eq_true_eq] at hb;have bW:=(HC h jf hb.1).2;unfold jW;rw[if_pos hv,if_pos hb.1,if_pos hb.2];unfold oJ;dsimp only;rw[if_pos];have:¬((dF q.au (dZ m)).length:Int)=q.keys.length:=by simpa[oG] using ha
 rw[uR] at this⊢;omega
def PV {q:Call} {m:az} {t t0:Int} (h:eB q t0) (hv:m.kind=4/\(m.yes=true->m.ar.length=1/\(ae m.ar 0).key=m.key)) (jf:gJ q.keys m.key=true) (hb:(decide (cQ q m.key<0)&&eH m.aw)=true) (ha:oG {q with au:=dF q.au (dZ m)}=true):
 jW q m t=if lB {q with au:=dF q.au (dZ m)}=[] then{q with au:=dF q.au (dZ m),aO:=lB {q with au:=dF q.au (dZ m)},end_:=t} else{q with au:=dF q.au (dZ m),aO:=lB {q with au:=dF q.au (dZ m)}}:=by
 rw[Bool.and_eq_true,decide_eq_true_eq] at hb;have tP:=(HC h jf hb.1).1;have:((dF q.au (dZ m)).length:Int)=q.keys.length:=by simpa[oG] using ha
 unfold jW;rw[if_pos hv,if_pos hb.1,if_pos hb.2];unfold oJ mY;dsimp only;rw[if_neg om];generalize lB {q with au:=dF q.au (dZ m)}=y;rw[tP,List.nil_append]
def acg {s:Server} {m:az} (hm:bY m=true) (h1:(m.kind==1&&fC (m.bj-10)&&decide (0<m.call)&&fR s m.key)=false) (h2:(m.kind==3&&fC (m.bj-10)&&decide (0<m.call)&&fR s m.key)=false)
 (h3:(m.kind==5&&(de m.bj&&(cv m.bj !=cv s.site)))=false) (h4:(m.kind==6&&(de m.bj&&(cv m.bj !=cv s.site))&&fR s m.key)=false) (h5:(m.kind==7&&(m.bj==fH s.site)&&decide (0<=placeOf s.ar ⟨m.key,m.aw⟩))=false)
 (h6:(m.kind==8&&(m.bj==fH s.site)&&g8 s ⟨m.key,m.aw⟩&&decide ((s.bq.length:Int)<80))=false) (h7:(m.kind==9&&(m.bj==fH s.site)&&decide (0<m.bX))=false)
 (h8:(m.kind==10&&(m.bj==fH s.site)&&([(ae s.aQ m.slot.toNat).bX,(ae s.aQ m.slot.toNat).fg]==[m.bX,2]))=false):eO s m=(s,[]):=by
 rw[Bool.and_assoc] at h4 h5 h7 h8;rw[Bool.and_assoc,Bool.and_assoc] at h6;unfold eO;by_cases k1:m.kind=1
 .rw[if_pos k1];unfold ie;rw[Po h1 k1];rfl
 rw[if_neg k1];by_cases k3:m.kind=3
 .rw[if_pos k3];unfold iK;rw[Po h2 k3];rfl
 rw[if_neg k3];by_cases k5:m.kind=5
 .rw[if_pos k5];unfold ia tm;rw[xd h3 k5];rfl
 rw[if_neg k5];by_cases k6:m.kind=6
 .have h:=xd h4 k6;rw[if_pos k6];unfold oB;rw[if_neg];intro e;unfold fR at h;rw[Mv hm,Bool.true_and] at h;simp only[Bool.and_eq_true] at e;rw[e.1.1.1,e.1.1.2,e.2] at h;cases h
 rw[if_neg k6];by_cases k7:m.kind=7
 .have h:=xd h5 k7;rw[if_pos k7];unfold oO jm;rw[if_neg];intro e;rw[Bool.and_eq_true] at e;split at e
  .rename_i hp;rw[e.2,decide_eq_true hp] at h;cases h
  cases e.1
 rw[if_neg k7];by_cases k8:m.kind=8
 .have h:=xd h6 k8;rw[if_pos k8];unfold oC;rw[if_neg];intro e;simp only[Bool.and_eq_true,decide_eq_true_eq] at e;rw[e.1.1,e.1.2,decide_eq_true om] at h;cases h
 rw[if_neg k8];by_cases k9:m.kind=9
 .have h:=xd h7 k9;rw[if_pos k9];unfold ib;rw[if_neg];intro e;simp only[Bool.and_eq_true,decide_eq_true_eq] at e;rw[e.1,decide_eq_true om] at h;cases h
 rw[if_neg k9];by_cases Iw:m.kind=10
 .have h:=xd h8 Iw;rw[if_pos Iw];unfold oD;rw[if_neg];intro e;simp only[Bool.and_eq_true,beq_iff_eq] at e;rw[e.1.2,e.2,e.1.1] at h;simp at h
 rw[if_neg Iw]
def abV {s:Server} {m:az} (h:bE s) (hm:bY m=true):bE (ie s m).1:=by
 unfold ie;split
 .rename_i hc;simp only[Bool.and_eq_true,decide_eq_true_eq] at hc;split
  .exact h
  split
  .rename_i hk;simp only[Bool.and_eq_true,decide_eq_true_eq] at hk;obtain⟨a1,a2,a3⟩:=HL h hm hk.1.1;exact(h.put hk.1.2 (by rw[a1]) (by show eY s m.key≠0;rw[(Ci hc.2).2];omega) hk.2).settle
  exact h
 exact h
def Iq {s:Server} {m:az} (h:bE s) (hm:bY m=true) (hu:s.up=true):bE (eO s m).1:=by
 unfold eO;repeat' split
 .exact abV h hm
 .exact h
 .exact Ym h
 .exact Wy h
 .exact h
 .exact YK h hu
 .exact Yn h
 .exact YM h hm
 exact h
def abW {s:Server} {m:az} (h:bE s):bE (gG s m).1:=by
 unfold gG;split
 .rename_i hc;simp only[Bool.and_eq_true] at hc;exact Iq h hc.1.2 hc.1.1
 exact h
def Ir {s:Server} {m:az} (h:bE s) (hm:bY m=true):∀w∈(eO s m).2,bY w=true:=by
 unfold eO;repeat' split
 .exact aaa h hm
 .exact abd h hm
 .exact abe h hm
 .intro w hw;simp at hw
 .exact Yo h hm
 .intro w hw;simp at hw
 .exact abf h hm
 .intro w hw;simp at hw
 intro w hw;simp at hw
def abX {s:Server} {m:az} (h:bE s):∀w∈(gG s m).2,bY w=true:=by
 unfold gG;split
 .rename_i hc;simp only[Bool.and_eq_true] at hc;exact Ir h hc.1.2
 intro w hw;simp at hw
def abY (s:Server) (m:az) (aj:gN s=true):
 Fn prog 310 [s.av,m.av] (dW (iK s m)):=by
 refine Fn.go 68 func310 ntmps310 (λW I a U=>?_);have hp:=zy aj;refine bV λI a w U=>?_;refine U.o (.c1 (zH ..)) λU=>?_;refine qg λI a w U=>?_;refine U.q .F (.cl (HZ _ _ aj)) λU=>?_;refine ax λI a w U=>?_;refine U.cd (λab=>?_) λab=>?_
 .rw[Df s m] at ab;replace ab:=nt ab;refine zt ?_;refine U.l0 λb24 I a w U=>?_;refine al λI a w U=>?_;obtain⟨I,U⟩:=U.fr 0 4;refine U.rt ?_;exact(by unfold iK;rw[ab];rfl)
 rw[Df s m] at ab;replace ab:=nf ab;refine aR λI a w U=>?_;refine U.o (.cl (OR _ _ hp.2.1)) λU=>?_;refine aV λI a w U=>?_;refine U.alloc rfl bI dY λb5 I a w U=>?_;refine aR λI a w U=>?_;refine U.o (.bd iI bf.nil) λU=>?_;refine U.o (A3 [_,_] [_,_] qh rfl rfl .tt .tt) λU=>?_;refine zt ?_;refine U.cd (λah=>?_) λah=>?_
 .rw[B7 m.aw] at ah;replace ah:=nt ah;refine df λI a w U=>?_;refine U.o (.cl (sj ..)) λU=>?_;refine fW λI a w U=>?_;refine U.cd (λai=>?_) λai=>?_
  .refine zt ?_;refine U.l0 λb49 I a w U=>?_;refine al λI a w U=>?_;obtain⟨I,U⟩:=U.fr 1 4;refine U.rt ?_;exact(by unfold iK;rw[ab,if_pos rfl,ah,if_neg be];rw[Ap hp.2.1] at ai;rw[zV ai];rfl)
  refine yS λI a w U=>?_;refine U.o (.bd dN (.k (.k (.k (.k (.k (.t (.k bf.nil)))))))) λU=>?_;refine U.alloc rfl cH dN λb7 I a w U=>?_;refine ax λI a w U=>?_;refine U.cd (λaG=>?_) λaG=>?_
  .refine aX λI a w U=>?_;refine U.o (.li [_] j9 (.u .nil)) λU=>?_;refine aV λI a w U=>?_;refine U.o (.li [_] gj (.u .nil)) λU=>?_;refine aW ?_;exact(by unfold iK;rw[ab,if_pos rfl,ah,if_neg be];rw[Ap hp.2.1] at aG⊢;obtain⟨v,hv⟩:=Option.isSome_iff_exists.1 aG;rw[hv];rfl)
  refine aX λI a w U=>?_;refine U.o (.li [_] gj (.u .nil)) λU=>?_;refine aW ?_;exact(by simp only[B] at ai;rw[ai] at aG;cases aG)
 rw[B7 m.aw] at ah;replace ah:=nf ah;refine yS λI a w U=>?_;refine U.o (.bd dN (.k (.k (.k (.k (.k (.t (.k bf.nil)))))))) λU=>?_;refine U.alloc rfl cH dN λb7 I a w U=>?_;refine ax λI a w U=>?_;refine U.cd (λaL=>?_) λaL=>?_
 .refine aX λI a w U=>?_;refine U.o (.li [_] j9 (.u .nil)) λU=>?_;refine aV λI a w U=>?_;refine U.o (.li [_] gj (.u .nil)) λU=>?_;refine aW ?_;exact(by unfold iK;rw[ab,if_pos rfl,ah,if_pos rfl];obtain⟨v,hv⟩:=Option.isSome_iff_exists.1 aL;unfold mi;rw[hv];rfl)
 refine aX λI a w U=>?_;refine U.o (.li [_] gj (.u .nil)) λU=>?_;refine aW ?_;exact(by unfold iK;rw[ab,if_pos rfl,ah,if_pos rfl];unfold mi;rw[show gD s.ar m.key=none from zV (by rw[aL];rfl)];rfl)
def abZ (s:Server) (slot:Int) (hg:bE s):
 Fn prog 279 [s.av,AV.int slot] (AV.c8 [(eF s slot).1.av,(eF s slot).2.1.av,AV.bool (eF s slot).2.2]):=by
 refine Fn.go 59 func279 ntmps279 (λW I a U=>?_);have aj:=iU.2 hg;have c6:=hg.ok;have h3:=hg.aQ;have e9:∀x,x=ct.cells ⟨(ae s.aQ slot.toNat).bX+1,2⟩->(List.map ct.cells s.aQ).set slot.toNat x=List.map ct.cells (pA s slot).aQ:=λx h=>by rw[h];exact List.map_set.symm
 refine aX λI a w U=>?_;refine U.alloc rfl bL di λb4 I a w U=>U.alloc rfl cH dN λb5 I a w U=>?_;refine aA λI a w U=>?_;refine U.o (.c1 (tO ..)) λU=>?_;refine al λI a w U=>?_;refine U.cd (λab=>?_) λab=>?_
 .exfalso;rw[aj] at ab;cases ab;skip
 refine aX λI a w U=>?_;refine U.dX [] (V2 s hg.small) (an .tt aH) rfl bA rfl λgX I a w qO U=>?_;refine U.alloc rfl bL di λb7 I a w U=>?_;refine df λI a w U=>?_;refine U.q .F (.cl (iu ..)) λU=>?_;refine df λI a w U=>?_;refine U.q .F ((by first|exact fT eM dP .ag .ag (λhg=>by simp[aS] at hg;omega)|exact iO eM dP .ag .ag (λhg=>by simp[aS] at hg;omega)|exact iZ eM dP .ag .ag (λhg=>by simp[aS] at hg;omega))) λU=>?_;refine lJ λI a w U=>?_;refine U.q .F ((by first|exact fT eM dP .ag .ag (λhg=>by simp[aS] at hg;omega)|exact iO eM dP .ag .ag (λhg=>by simp[aS] at hg;omega)|exact iZ eM dP .ag .ag (λhg=>by simp[aS] at hg;omega))) λU=>?_;refine aU λI a w U=>?_;refine U.cd (λah=>?_) λah=>?_
 .rw[L8] at ah;replace ah:=nt ah;obtain⟨I,U⟩:=U.fu 2 2 3;refine aX λI a w U=>?_;refine U.o (.bd dN bf.nil) λU=>?_;refine aI λI a w U=>?_;refine U.ret rfl (.cons (.sx 0) (.cons (.sx 1) (.cons (.t rfl) aZ.nil))) ?_;exact(by unfold eF;rw[ah];rfl)
 rw[L8] at ah;replace ah:=nf ah;have hmp:=zL ah;have hsr:=vb.1 (CK hg (i:=slot.toNat) om);have vx:=C2 hg ah;refine zt ?_;obtain⟨qW,ahv,HN⟩:=U.iS 2 rfl cq;subst HN;refine U.dt 12 ?_;simp only[TD];refine wh ?_;refine .o (.bd kD (.k (.k bf.nil))) ?_;refine .o (gv eM dP .tt .tt (λ_=>by simp only[List.length_map];omega)) ?_;refine .nil ?_;intro I a w U;refine U.ja 2 dP .tt .tt rfl (by exact fq om) rfl rfl λa w U=>?_;refine zt ?_;rw[e9] at U;rotate_left
 .rfl
 obtain⟨I,U⟩:=U.fu 2 2 3;refine U.dt 4 ?_;simp only[TD];refine ee ?_;refine .o (bx (O7 (pA s slot) slot vx.ar vx.waits hg.site vx.aQ om (hP hg.aE)) (an (.t rfl) (an (.t rfl) aH))) ?_;refine .nil ?_;intro I a w U;refine aI λI a w U=>?_;refine U.ret rfl (.cons (.sx 0) (.cons (.sx 1) (.cons (.t rfl) aZ.nil))) ?_;exact(by unfold eF;rw[ah];rfl)
def eB.lens {q:Call} {t:Int} (h:eB q t):1<=q.keys.length/\q.keys.length<=3/\q.ctx.length<=6/\q.aO.length<=6/\q.au.length<=3/\∀a∈q.au,a.bl.aK.length<=6:=by
 have h1:=h.keys;have hu:kf q.keys=true:=by simp only[iz,Bool.and_eq_true] at h1;exact h1.1
 have h2:1<=q.keys.length/\q.keys.length<=3:=by
  simp only[iz,Bool.and_eq_true,Bool.or_eq_true,aS,beq_iff_eq,decide_eq_true_eq] at h1;omega
 have h3:q.au.length<=q.keys.length:=HW hu (Om.2 ⟨h.has,h.sorted,h.cX⟩);exact⟨h2.1,h2.2,gU h.ctx,gU h.aO,by omega,λa ha=>gU (r4 (h.cX a ha))⟩
def eB.small {q:Call} {t:Int} (h:eB q t):uO q:=by
 have:=h.lens;exact⟨by omega,by omega,by omega,λa ha=>(by have:=this.2.2.2.2.2 a ha;omega),by omega⟩
def ab0 (q:Call) (g:Value) (x:Answer) (t t0:Int) (h:eB q t0) (vq:x.bl.key=x.key):
 er prog 329 [q.WE g,x.av,AV.int t] [Own.row g 56 9 (q.au.map Answer.cells)] [] (ov q x t).av:=by
 refine bG.intro 68 func329 rfl ntmps329 rfl aq (λW I a U=>?_);have oR:=h.lens;refine sr<|U.box rfl .tt λb3 I a w U=>U.o .bp λU=>U.alloc rfl dm g0 λb6 I a w U=>?_;refine zt ?_;refine U.l0 λb9 I a w U=>?_;refine ax λI a w U=>?_;refine St.lo (σ:=Nat×Value) (run 2 7 (run 44 10 [])) ⟨λ⟨k,v⟩=>[(8,AV.int k),(7,AV.val v)],λ⟨k,v⟩=>[Own.row g 56 9 ((oz q x k).map Answer.cells),Own.box b3 45 [AV.int q.aB,AV.int q.num,AV.int q.kind,fM q.keys,AV.int q.val,bm q.ctx,AV.int q.bw,AV.int q.end_,AV.bool q.over,AV.int q.aw.time,AV.int q.aw.site,AV.val g,bm q.aO],Own.box b6 45 [AV.val (.int .i64 0),AV.val (.int .i64 0),AV.val (.int .i64 0),AV.rows 1 [],AV.val (.int .i64 0),AV.rows 3 [],AV.val (.int .i64 0),AV.val (.int .i64 0),AV.val (.bool false),AV.val (.int .i64 0),AV.val (.int .i64 0),AV.rows 9 [],AV.rows 3 []],Own.row v 125 3 ((ot q x k).map ao.cells)],λ⟨k,v⟩=>k<=q.aO.length⟩ (λ⟨k,v⟩=>q.aO.length-k) (0,.slice (some ⟨b9,0,none⟩) 0 0) U ?aD ?bh;case aD=>exact Nat.zero_le _
 rintro⟨k,v⟩ I a w aj U;have hk:k<=q.aO.length:=aj;dsimp only at U;refine bP λI a w U=>?_;refine cz (λab=>?_) λab=>?_
 .refine zt ?_;refine U.dk ?_;refine n5 ?_;refine ee ?_;refine .q .T (n1 [_,_] [_,_] qh rfl rfl .ag .ag) ?_;refine br ?_;refine .nil ?_;intro I a w U;refine ba ?_;refine U.cd (λah=>?_) λah=>?_
  .rw[Ni _ x vq,decide_eq_true_eq] at ah;have Is:=ZW h ab ah vq;obtain⟨mA,qX⟩:=xn Is;rw[Y5 h.aO ab ah] at U;obtain⟨bg,PO,eg⟩:=U.iS 0 rfl cq;subst eg;refine wp_seq ?_;refine U.dt 8 ?_;simp only[TD];refine fQ ?_;refine .o (Ka (cs:=[AV.int q.aB,AV.int q.num,AV.int q.kind,fM q.keys,AV.int q.val,bm q.ctx,AV.int q.bw,AV.int q.end_,AV.bool q.over,AV.int q.aw.time,AV.int q.aw.site,.val (.slice (some ⟨bg,0,none⟩) (q.au.map Answer.cells).length PO),bm q.aO]) 0 11 (an .tt (an .tt aH)) rfl rfl (Ch q x.key) (λ_ _ _ h=>h)) ?_;refine br ?_;refine .o (gv eD dI .tt .tt (λ_=>by simp only[List.length_map];omega)) ?_;refine .nil ?_;intro I a w U;refine U.ja 0 dI .tt .tt rfl (by exact fq om) rfl rfl λa w U=>?_;refine zt ?_;refine aI λI a w U=>?_;have e9:∀y,y=x.cells->(List.map Answer.cells q.au).set (cQ q x.key).toNat y=List.map Answer.cells (oz q x (k+1)):=λy hy=>by rw[hy,Y4 ab ah,List.map_set]
   rw[e9,Vv ab ah] at U;rotate_left
   .rfl
   exact U.ag (k+1,v) (ab)
  rw[Ni _ x vq,decide_eq_false_iff_not] at ah;refine df λI a w U=>?_;refine U.o (.li [(ae q.aO k).cells] gM (.u .nil)) λU=>?_;refine U.append 3 rfl dw cM rfl .tt .r rfl (by have:=X1 q x k;simp;omega) λv53 a w U=>?_;rw[cA,Vw ab ah,X0 ab ah] at U;refine aU λI a w U=>?_;exact U.ag (k+1,v53) (ab)
 refine zt ?_;refine U.m λU=>U.o (jL 3 dw .tt rfl) λU=>?_;refine fW λI a w U=>?_;refine U.cd (λai=>?_) λai=>?_
 .rw[Mb,decide_eq_true_eq] at ai;refine aI λI a w U=>?_;obtain⟨I,U⟩:=U.fr 3 7;refine aA λI a w U=>?_;try have ab2:=U.cU 3 rfl
  refine al λI a w U=>?_;obtain⟨I,U⟩:=U.fu 0 11 1;refine ax λI a w U=>?_;refine U.cE () [] rfl (.cons (.sx 2) .nil) trivial rfl ?_;exact(by rw[Pc (k:=k) om,if_pos ai];rfl)
 rw[Mb,decide_eq_false_iff_not] at ai;refine wp_skip<|ba<|wp_seq ?_;obtain⟨I,U⟩:=U.fr 3 7;refine aA λI a w U=>?_;try have ab2:=U.cU 3 rfl
 refine al λI a w U=>?_;obtain⟨I,U⟩:=U.fu 0 11 1;refine ax λI a w U=>?_;refine U.cE () [] rfl (.cons (.sx 2) .nil) trivial rfl ?_;exact(by rw[Pc (k:=k) om,if_neg ai];rfl)
def ab3 (s:Server) (m:az) (hg:bE s) (ho:(aS m.bj 10 11&&decide (1<=m.call)&&fR s m.key)=true):
 Fn prog 343 [s.av,m.av] (AV.c8 [((s,iK s m)).1.av,dW ((s,iK s m)).2]):=by
 refine Fn.go 55 func343 ntmps343 (λW I a U=>?_);have aj:=iU.2 hg;have c6:=hg.ok;have hZ:=hg.small;have ud:∀v∈s.ar,v.aK.length<=1048576:=hZ.2.1.2;refine aA λI a w U=>?_;refine U.alloc rfl bL di λb4 I a w U=>?_;refine fm λI a w U=>?_;refine U.o (.bd dN (.k (.k (.k (.t bf.nil))))) λU=>?_;refine U.alloc rfl cH dN λb6 I a w U=>?_;refine bV λI a w U=>?_;refine U.o (.cl (Pg s.ar m.key ud)) λU=>?_;refine aV λI a w U=>?_;refine U.alloc rfl bI dY λb7 I a w U=>?_;refine aR λI a w U=>?_;refine U.o (.c1 (uV ..)) λU=>?_;refine al λI a w U=>?_;refine U.cd (λab=>?_) λab=>?_
 .replace ab:=nt ab;refine df λI a w U=>?_;refine U.o (.bd fE (.k (.t bf.nil))) λU=>?_;refine U.o (.cl (qp s.ar ⟨m.key,m.aw⟩)) λU=>?_;refine aI λI a w U=>?_;refine U.cd (λah=>?_) λah=>?_
  .refine aI λI a w U=>?_;refine U.ret rfl (.cons (.sx 0) (.cons (.nil (sz:=15) rfl) aZ.nil)) ?_;exact(by show AV.c8 [s.av,_]=AV.c8 [s.av,dW (iK s m)];unfold iK;rw[ho,if_pos rfl];rw[ab,if_neg be,show jm s.ar ⟨m.key,m.aw⟩=none from by unfold jm;rw[if_neg (by simpa using ah)]];rfl)
  refine aV λI a w U=>?_;refine U.o ((by first|exact fT du bI .tt .tt (λ_=>by have:=z7 ah;omega)|exact iO du bI .tt .tt (λ_=>by have:=z7 ah;omega)|exact iZ du bI .tt .tt (λ_=>by have:=z7 ah;omega))) λU=>?_;refine aU λI a w U=>?_;refine U.cd (λai=>?_) λai=>?_
  .refine U.fV (([2],none)::rp 2 [([1],some (1,[])),([],none),([1],some (1,[]))]) aq aq rfl ?_;refine .r [2] (.ls 2) ?_;refine .o (.li [_] j9 (.u .nil)) ?_;refine br ?_;refine aP.gZ (x:=AV.any) 1 (λF W0 I0 I γ a w Q U kk=>U.s1 1 λU=>kk _ _ _ U) ?_;refine br ?_;refine aP.gZ (x:=AV.any) 1 (λF W0 I0 I γ a w Q U kk=>U.s1 1 λU=>kk _ _ _ U) ?_;refine .nil ?_;intro I a w U;refine zt ?_;refine U.dt 5 ?_;simp only[TD];refine ef ?_;refine .o (bx (se s m ⟨4,0,0,m.call,m.key,m.aw,0,true,[],0,0,[ae s.ar (placeOf s.ar ⟨m.key,m.aw⟩).toNat],[],[]⟩ (Pk (s:=s) (ud _ (bK (by have:=z7 ah;omega))))) (an (.t rfl) (an (.t rfl) (an (.t rfl) aH)))) ?_;refine .nil ?_;intro I a w U;refine ax λI a w U=>?_;refine U.ret rfl (.cons (.sx 0) (.cons .x aZ.nil)) ?_;exact(by show AV.c8 [s.av,_]=AV.c8 [s.av,dW (iK s m)];unfold iK;rw[ho,if_pos rfl];rw[ab,if_neg be,(z7 ah).2.2];rfl)
  cases ai;skip
 replace ab:=nf ab;refine al λI a w U=>?_;refine U.cd (λaG=>?_) λaG=>?_
 .refine U.fV (([2],none)::rp 2 [([1],some (1,[])),([],none),([1],some (1,[]))]) aq aq rfl ?_;refine .r [2] (.ls 2) ?_;refine .o (.li [_] j9 (.u .nil)) ?_;refine br ?_;refine aP.gZ (x:=AV.any) 1 (λF W0 I0 I γ a w Q U kk=>U.s1 1 λU=>kk _ _ _ U) ?_;refine br ?_;refine aP.gZ (x:=AV.any) 1 (λF W0 I0 I γ a w Q U kk=>U.s1 1 λU=>kk _ _ _ U) ?_;refine .nil ?_;intro I a w U;refine zt ?_;refine U.dt 5 ?_;simp only[TD];refine ef ?_;refine .o (bx (se s m ⟨4,0,0,m.call,m.key,m.aw,0,true,[],0,0,[(gD s.ar m.key).getD default],[],[]⟩ (Pk (s:=s) (by obtain⟨v,hv⟩:=Option.isSome_iff_exists.1 aG;rw[hv];exact ud _ (Gw hv).1))) (an (.t rfl) (an (.t rfl) (an (.t rfl) aH)))) ?_;refine .nil ?_;intro I a w U;refine ax λI a w U=>?_;refine U.ret rfl (.cons (.sx 0) (.cons .x aZ.nil)) ?_;exact(by show AV.c8 [s.av,_]=AV.c8 [s.av,dW (iK s m)];unfold iK;rw[ho,if_pos rfl];rw[ab,if_pos rfl];obtain⟨v,hv⟩:=Option.isSome_iff_exists.1 aG;unfold mi;rw[hv];rfl)
 refine zt ?_;refine U.dt 5 ?_;simp only[TD];refine ef ?_;refine .o (.c3 (se s m ⟨4,0,0,m.call,m.key,m.aw,0,false,[],0,0,[],[],[]⟩ (vf ..)))<|.nil ?_;intro I a w U;refine ax λI a w U=>?_;refine U.ret rfl (.cons (.sx 0) (.cons .x aZ.nil)) ?_;exact(by show AV.c8 [s.av,_]=AV.c8 [s.av,dW (iK s m)];unfold iK;rw[ho,if_pos rfl];rw[ab,if_pos rfl];unfold mi;rw[show gD s.ar m.key=none from zV (by rw[aG];rfl)];rfl)
def cF.lens {w:aM} (h:cF w):w.calls.length<=20/\∀q∈w.calls,q.au.length<=3:=⟨(vr.1 h.calls).1,λq hq=>by
 obtain⟨k,hk,rfl⟩:=iq hq;exact(h.call hk).lens.2.2.2.2.1⟩
def PQ {s:Server} {m:az} (hg:bE s) (hm:bY m=true):(gG s m).2.length<=1048576/\∀y∈(gG s m).2,iV y:=by
 unfold gG;split
 .exact⟨by have:=Ps s m;omega,λy hy=>vm (Ir hg hm y hy)⟩
 exact⟨Nat.zero_le _,λy hy=>by cases hy⟩
def PR {q:Call} {t:Int} (h:eB q t):(jF q).length<=1048576/\∀y∈jF q,iV y:=by
 refine⟨?_,λy hy=>vm (O4 h y hy)⟩;cases hw:hX q
 .unfold jF;rw[hw];exact Nat.zero_le _
 rw[<-N3 hw (Nat.le_refl _),GZ q _ (Nat.le_refl _)];have:=Ib (q:=q);have:=h.lens;omega
def cF.small {w:aM} (h:cF w):C1 w:=by
 refine⟨⟨by have:=h.aF;omega,λs U=>?_⟩,⟨by have:=h.aC;omega,λm hm=>vm (h.words m hm)⟩,⟨by have:=h.lens.1;omega,λq hq=>?_⟩,by have:=h.seen;omega,λl hl=>by have:=gU (h.pJ l hl);omega⟩
 .obtain⟨i,hi,rfl⟩:=iq U;exact((h.site i (by have:=h.aF;omega)).2).small
 obtain⟨i,hi,rfl⟩:=iq hq;exact(h.call hi).small
def ab4 {x:aM} (hg:cF x):pf x<=1125899906842624:=by
 obtain⟨⟨_,h1⟩,⟨_,h2⟩,⟨_,h3⟩,_,h4⟩:=hg.small;have s:=uF (f:=lL) (c:=6597090738178) (l:=x.aF) λs U=>by
  obtain⟨a,b,c,d,e⟩:=h1 s U;have e1:=CN b;have e2:=CN c;unfold lL;omega
 have m:=uF (f:=lM) (c:=6597090738178) (l:=x.aC) λm hm=>by
  obtain⟨a,b,c,d⟩:=h2 m hm;have e1:=CN b;have e2:=CN c;unfold lM;omega
 have q:=uF (f:=lN) (c:=33554432) (l:=x.calls) λq hq=>by
  obtain⟨a,b,_,d,e⟩:=h3 q hq;have h5:=hg.lens.2 q hq;have h6:=uF (f:=lr) (c:=3145736) (l:=q.au) λy hy=>by have:=d y hy;unfold lr jh;omega
  have h7:=Nat.mul_le_mul_right 3145736 h5;unfold lN;omega
 have d:=uF (f:=λl:List ao=>3*l.length) (c:=3145728) (l:=x.seen) λl hl=>by have:=h4 l hl;omega
 have a1:=hg.aF;have a2:=hg.aC;have a3:=hg.lens.1;have a4:=hg.seen;rw[a1] at s;rw[a4] at d;have b2:=Nat.mul_le_mul_right 6597090738178 a2;have b3:=Nat.mul_le_mul_right 33554432 a3;unfold pf;omega
def It {x:aM} (h:fN x=true\/x=te):pf x<=1125899906842624/\x.seen.length<=2:=by
 rcases h with h|rfl
 .have hg:=(lS.1 h).1;exact⟨ab4 hg,by have:=hg.seen;omega⟩
 exact⟨by decide,by decide⟩
def cF.au {w:aM} (h:cF w):∀q∈w.calls,q.au.length<=1048576:=λq hq=>by have:=h.lens.2 q hq;omega
def ab5:
 bG prog 78 [] [] (λt:NT=>t.plain=oi) (λt=>t.owns KK) (λt=>AV.agg t.cells):=by
 refine bG.intro 17 func78 rfl ntmps78 rfl aq (λW I a U=>?_);have U:=U.en (sz:=7) 95;have U:=U.mO;refine sr<|U.alloc rfl dz dT λb0 I a w U=>?_;refine zt ?_;refine U.make rfl pb iH Sv rfl .c .c (by exact⟨by decide,by decide⟩) λb3 a w U=>?_;refine U.o (.bd ny (.k bf.nil)) λU=>?_;refine U.alloc rfl dz ny λb1 I a w U=>?_;refine ax λI a w U=>?_;refine St.lo (σ:=List ST×Value) (2::(run 11 5 [])) ⟨λ⟨ss,q⟩=>[(5,AV.int (ss.length:Nat))],λ⟨ss,q⟩=>[Own.row q 95 7 (ss.map ST.cells),Own.many (ss.map λx=>Own.many (ST.owns KK x)),Own.box b0 28 [AV.val (.int .i64 0),AV.rows 7 [],AV.rows 15 [],AV.rows 13 [],AV.rows 1 []],Own.row (.slice (some ⟨b3,0,none⟩) 2 2) 40 1 (List.replicate 2 [AV.val (.slice none 0 0)]),Own.box b1 28 [AV.int 0,AV.val q,AV.val (.slice none 0 0),AV.val (.slice none 0 0),AV.val (.slice (some ⟨b3,0,none⟩) 2 2)]],λ⟨ss,q⟩=>ss.map ST.plain=oi.aF.take ss.length/\ss.length<=oi.aF.length⟩ (λ⟨ss,q⟩=>4-ss.length) ([],(.slice none 0 0)) U ?aD ?bh;case aD=>exact⟨by simp,Nat.zero_le _⟩
 rintro⟨ss,q⟩ I a w aj U;obtain⟨vu,vw⟩:=aj;replace vw:ss.length<=4:=vw;dsimp only at U;refine al λI a w U=>?_;refine cz (λab=>?_) λab=>?_
 .refine ax λI a w U=>?_;have U:=U.dH;have U:=U.dH;refine U.ql 5 [([],none),([4],none),([],none),([5],some (5,[11])),([6],some (6,[12,11]))] aq aq rfl ?_;simp only[TD];refine br ?_;refine .r [4] (.lb 4) ?_;refine br ?_;refine aP.rH (AV.kS 7) 5 rfl rfl (Yb ss.length om) (λ_ _ _ _ _ _ e=>sY e) (an .tt aH) ?_;refine aP.BJ 6 rfl rfl jw bL rfl wk rfl rfl rfl rfl<|aP.rh ?_;intro γ I a w U;change St _ _ [Own.row q 95 7 (ss.map ST.cells),Own.many (ss.map λx=>Own.many (ST.owns KK x)),Own.box b0 28 [AV.val (.int .i64 0),AV.rows 7 [],AV.rows 15 [],AV.rows 13 [],AV.rows 1 []],Own.row (.slice (some ⟨b3,0,none⟩) 2 2) 40 1 (List.replicate 2 [AV.val (.slice none 0 0)]),Own.box b1 28 [AV.int 0,AV.val q,AV.val (.slice none 0 0),AV.val (.slice none 0 0),AV.val (.slice (some ⟨b3,0,none⟩) 2 2)],Own.au _ _ _ (γ 11) (a.tmps.getD 11 undef),Own.is (.rows 7 [eA (a.tmps.getD 11 undef)]) (a.tmps.getD 12 undef)] _ _ _ at U;obtain⟨PS,Ie,U⟩:=U.qj (d:=11) 5 rfl;have U:=U.BK (d:=12) (t:=11) 6 rfl rfl rfl;show wpList _ _ _ _ _ _;refine U.ap 0 λAl a w U=>?_;refine U.o .fv λU=>?_;try have N6:=U.cU 0 rfl
  refine aI λI a w U=>?_;rw[uE] at U;have U:=U.uD 7 1 PS rfl rfl;have U:=U.drop 5;refine U.again (ss++[PS],Al) ?bM ?bN bF ?bO (by repeat(first|exact Env.le_rfl|refine Env.dj rfl ?_));case bM=>simp;omega
  case bN=>exact nz ⟨vu,vw⟩ (show ss.length<4 by omega) (Ie.trans (VJ om))
  case bO=>exact(Env.bt rfl (by exact congrArg AV.int be) Env.le_nil)
 refine wp_exit<|bU<|bU<|eb<|ba<|wp_seq ?_;have aT:=nA ⟨vu,vw⟩ (show 4<=ss.length by omega);refine ax λI a w U=>?_;have U:=U.sZ 2;have U:=U.tie 3;have U:=U.oa KK.word 15 WT.cells (WT.owns KK);have U:=U.oa KK.call 13 CT.cells (CT.owns KK);have U:=U.sZ 2;have U:=U.en (sz:=3) KK.bD;have U:=U.tie 6;have U:=U.en (sz:=3) KK.bD;have U:=U.tie 7;have U:=U.tie 6;have U:=U.tie 5;refine U.cE (⟨0,q,(.slice none 0 0),(.slice none 0 0),(.slice (some ⟨b3,0,none⟩) 2 2),ss,[],[],[⟨[],(.slice none 0 0)⟩,⟨[],(.slice none 0 0)⟩]⟩:NT) [1,2,3,5] rfl (.cons (.sx 4) .nil) (by show NT.plain _=oi;unfold NT.plain;rw[aT];rfl) rfl rfl
end Go.Proofs.YtldbakcpcfdlaaaGreat
