/- Part 20: contracts of functions, plain facts. -/
import Derived.Test.YtldbakcpcfdlaaaGreatA16
import Derived.Test.YtldbakcpcfdlaaaGreatA17
set_option linter.all false
set_option maxRecDepth 100000
set_option maxHeartbeats 4000000
namespace Go.Proofs.YtldbakcpcfdlaaaGreat
open Go Go.RowKit Tryz
attribute [local irreducible] wpList Code.wp Ok
def Gc:∀{l:List Answer},(∀a∈l,dH a=true)->∀key,qN (pO l key)
 |[],_,_=>Or.inl rfl
 |a::r,h,key=>N0 (rb (qU (h a bt)) key) (Gc (λb hb=>h b (by simp[hb])) key)
def BO:∀{l:List Answer} {acc:List an},bP acc=true->(∀a∈l,dH a=true)->bP (l.foldl pI acc)=true/\∀key,cv (l.foldl pI acc) key=dI (cv acc key) (ri l key)
 |[],acc,ha,_=>⟨ha,λkey=>by show cv acc key=dI (cv acc key) gM;rw[yC (rb ha key)]⟩
 |a::r,acc,ha,h=>by
  have hg:=h a bt;cases hy:a.yes
  .have e:pI acc a=acc:=by unfold pI;rw[hy];simp
   have h2:=BO (l:=r) ha λb hb=>h b (by simp[hb]);rw[List.foldl_cons,e];refine⟨h2.1,λkey=>?_⟩;rw[h2.2 key];show _=dI _ (dI (if a.yes=true/\a.key=key then a.bF.ax else gM) (ri r key));rw[if_neg (by rw[hy];simp),oD (yI (l:=r) (λb hb=>h b (by simp[hb])) key)]
  have hd:=yt hg hy;have e:pI acc a=fR acc ⟨a.key,a.bF.ax⟩:=by unfold pI;rw[hy];simp
  have bX:c7 a.bF.ax=true:=(jL (sh hg hy).1).2.1;have h2:=BO (l:=r) (wc ha (hd.2▸hd.1)) λb hb=>h b (by simp[hb]);rw[List.foldl_cons,e];refine⟨h2.1,λkey=>?_⟩;rw[h2.2 key,BB key ha bX];show _=dI _ (dI (if a.yes=true/\a.key=key then a.bF.ax else gM) (ri r key));by_cases hk:a.key=key
  .rw[if_pos hk,if_pos ⟨hy,hk⟩,FI]
  rw[if_neg hk,if_neg λh=>hk h.2,oD (yI (l:=r) (λb hb=>h b (by simp[hb])) key)]
def wx:∀{l:List Answer} {acc:List an},bP acc=true->(∀a∈l,dH a=true)->bP (l.foldl pN acc)=true/\∀key,cv (l.foldl pN acc) key=dI (cv acc key) (dI (pO l key) (ri l key))
 |[],acc,ha,_=>⟨ha,λkey=>by show cv acc key=dI (cv acc key) (dI gM gM);rw[oD (Or.inl rfl),yC (rb ha key)]⟩
 |a::r,acc,ha,h=>by
  have hg:=h a bt;have hr:∀b∈r,dH b=true:=λb hb=>h b (by simp[hb]);cases hy:a.yes
  .have e:pN acc a=acc:=by unfold pN;rw[hy];simp
   have h2:=wx (l:=r) ha hr;rw[List.foldl_cons,e];refine⟨h2.1,λkey=>?_⟩;rw[h2.2 key];show _=dI _ (dI (dI (cv a.bF.aS key) (pO r key)) (dI (if a.yes=true/\a.key=key then a.bF.ax else gM) (ri r key)));rw[if_neg (by rw[hy];simp),oD (yI hr key),Bp hg hy];show _=dI _ (dI (dI gM (pO r key)) (ri r key));rw[oD (Gc hr key)]
  have hd:=yt hg hy;have zR:=qU hg;have hv:=sh hg hy;have e:pN acc a=fR (iZ acc a.bF.aS) a.bF.bG:=by unfold pN;rw[hy];simp
  have bX:c7 a.bF.bG.ax=true:=(jL hv.1).2.1;have hj:bP (iZ acc a.bF.aS)=true:=we ha λd jg=>nV zR jg;have h2:=wx (l:=r) (wc hj hd.1) hr;rw[List.foldl_cons,e];refine⟨h2.1,λkey=>?_⟩;rw[h2.2 key,BB key hj bX,FJ ha zR];show _=dI _ (dI (dI (cv a.bF.aS key) (pO r key)) (dI (if a.yes=true/\a.key=key then a.bF.ax else gM) (ri r key)));have e2:a.bF.bG.key=a.key:=hv.2;rw[e2];have e3:a.bF.bG.ax=a.bF.ax:=rfl;rw[e3];apply EY;intro x;by_cases hk:a.key=key
  .rw[if_pos hk,if_pos ⟨hy,hk⟩];simp only[Bo];cases c8 x (cv acc key)<;>cases c8 x (cv a.bF.aS key)<;>cases c8 x (pO r key)<;>cases c8 x a.bF.ax<;>simp
  rw[if_neg hk,if_neg λh=>hk h.2,oD (yI hr key)];simp only[Bo];cases c8 x (cv acc key)<;>cases c8 x (cv a.bF.aS key)<;>cases c8 x (pO r key)<;>simp
def YH {c:Call} (hc:bP c.ctx=true) (h:∀a∈c.az,dH a=true):FX c=jx c:=by
 unfold jx FX;split
 .rfl
 split
 .rfl
 have BP:=rf (acc:=[]) rfl h;have gA:bP (eL c)=true:=BP.1;have hj:bP (iZ c.ctx (eL c))=true:=we hc λd hd=>nV gA hd;have h1:=BO hj h;have h2:=wx hc h;refine Oh h1.1 h2.1 λkey=>?_;rw[h1.2 key,h2.2 key,FJ hc gA];have e:cv (eL c) key=pO c.az key:=by
  show cv (c.az.foldl ll []) key=_;rw[BP.2 key];show dI gM _=_;exact oD (Gc h key)
 rw[e,FI]
def en (s:Server) (m:aw):Server×List aw:=
 if m.kind=1 then gX s m else if m.kind=3 then(s,iA s m) else if m.kind=5 then gY s m else if m.kind=6 then(ny s m,[]) else
 if m.kind=7 then(s,nD s m) else if m.kind=8 then(nk s m,[]) else if m.kind=9 then g8 s m else if m.kind=10 then(nz s m,[]) else(s,[])
def gq (s:Server) (m:aw):Server×List aw:=if s.up&&bQ m&&(m.to==s.site) then en s m else(s,[])
def iM (w:aJ) (e:Ev):aJ×Bool:=
 if aQ e.word 0 ((w.au.length:Int)-1) then
  let m:=ab w.au e.word.toNat
  let w1:=if e.kind=5\/e.jd=0 then{w with au:=w.au.take e.word.toNat++w.au.drop (e.word.toNat+1)} else w
  if e.kind=5 then(w1,true)
  else if aQ m.to 10 11 then(oF w1 m,true)
  else({w1 with aC:=w.aC.set m.to.toNat (gq (ab w.aC m.to.toNat) m).1,au:=eC w1.au (gq (ab w.aC m.to.toNat) m).2},true)
 else(w,false)
def jc (w:aJ) (e:Ev):aJ×Bool:=
 if e.kind=1 then kb w e else
 let i:=cw w.calls e.aA
 if i<0 then(w,false)
 else if e.kind=3 then({w with calls:=w.calls.set i.toNat {ab w.calls i.toNat with over:=true}},true)
 else({w with au:=eC w.au (jo (ab w.calls i.toNat))},true)
def eU (w0:aJ) (e:Ev):aJ×Bool:=
 let w:={w0 with time:=w0.time+1}
 if e.kind=1\/e.kind=2\/e.kind=3 then jc w e
 else if e.kind=4\/e.kind=5 then iM w e
 else if aQ e.kind 6 9&&cQ e.at_ then fH w e
 else(w,false)
def YI {s:Server} {m:aw} (h:bA s):bA (g8 s m).1:=by
 unfold g8;split
 .split
  .exact h
  split
  .rename_i hc;simp only[Bool.and_eq_true] at hc;exact(iL.1 hc.2).settle
  exact h
 exact h
def Gd {s:Server} {m:aw} (h:bA s) (hm:bQ m=true) (hu:s.up=true):bA (en s m).1:=by
 unfold en;repeat' split
 .exact XP h hm
 .exact h
 .exact XQ h
 .exact XR h
 .exact h
 .exact XS h hu
 .exact YI h
 .exact XU h hm
 exact h
def YJ {s:Server} {m:aw} (h:bA s):bA (gq s m).1:=by
 unfold gq;split
 .rename_i hc;simp only[Bool.and_eq_true] at hc;exact Gd h hc.1.2 hc.1.1
 exact h
def YK {s:Server} {m:aw} (h:bA s) (hm:bQ m=true):∀w∈(g8 s m).2,bQ w=true:=by
 unfold g8;split
 .split
  .intro w hw;obtain rfl:w=_:=by simpa using hw
   exact N3 h hm
  split
  .intro w hw;obtain rfl:w=_:=by simpa using hw
   exact N3 h hm
  intro w hw;simp at hw
 intro w hw;simp at hw
def Ge {s:Server} {m:aw} (h:bA s) (hm:bQ m=true):∀w∈(en s m).2,bQ w=true:=by
 unfold en;repeat' split
 .exact XV h hm
 .exact XW h hm
 .exact Wa h hm
 .intro w hw;simp at hw
 .exact XX h hm
 .intro w hw;simp at hw
 .exact YK h hm
 .intro w hw;simp at hw
 intro w hw;simp at hw
def YL {s:Server} {m:aw} (h:bA s):∀w∈(gq s m).2,bQ w=true:=by
 unfold gq;split
 .rename_i hc;simp only[Bool.and_eq_true] at hc;exact Ge h hc.1.2
 intro w hw;simp at hw
def YM {q:Call} {t:Int} (h:dQ q t):bP (jx q)=true:=by
 unfold jx;split
 .exact h.ctx
 rename_i he;split
 .rename_i hk;refine wc h.ctx ?_;have U:c7 q.ax=true:=by
   have h1:=(h.ended he).2.2.2.1 hk;have h2:=h.fits;unfold jO at h2;rw[h1,Bool.false_or] at h2;exact h2
  have hu:jK q.keys=true:=by have:=h.keys;simp only[ie,Bool.and_eq_true] at this;exact this.1
  have h1:q.keys.length=1:=by
   have:=h.keys;simp[ie,hk] at this;omega
  unfold gU;rw[Bool.and_eq_true];exact⟨v5 hu (bB om),U⟩
 exact(wx h.ctx h.cH).1
def YN (s:Server) (m:aw):(en s m).1.site=s.site:=by
 unfold en;repeat' split
 .exact VG s m
 .rfl
 .exact VH s m
 .show(ny s m).site=s.site;unfold ny;split<;>rfl
 .rfl
 .show(nk s m).site=s.site;unfold nk;split
  .exact v3 _
  rfl
 .exact Yp s m
 .show(nz s m).site=s.site;unfold nz;split
  .exact v3 _
  rfl
 rfl
def YO (s:Server) (m:aw):(gq s m).1.site=s.site:=by
 unfold gq;split
 .exact YN s m
 rfl
def YP {w:aJ} (h:cr w) (e:Ev) (ha:cQ e.at_=true):cr (fH w e).1:=by
 rw[mI] at ha;have hi:e.at_.toNat<4:=by omega
 obtain⟨_,U⟩:=h.site _ hi;unfold fH;dsimp only;split
 .exact h.server hi (U3 U) rfl
 split
 .exact h.server hi (U4 U) rfl
 split
 .exact h.send (F6 U)
 split
 .rename_i hk;have hp:=ye hk;have hg:=BD U hk;exact(h.server hi hg rfl).send λm hm=>by
   obtain rfl:m=_:=by simpa using hm
   exact Fi hg hp.2.1 hp.2.2.1
 exact h
def YQ {w:aJ} (h:cr w) (e:Ev) (al:(jc w e).2=true):cr (jc w e).1:=by
 unfold jc at*;split at al
 .rename_i hk;rw[if_pos hk];unfold kb at*;split at al
  .rename_i hc;rw[if_pos hc];exact⟨h.time,h.aC,h.site,h.au,h.words,h.seen,h.od,al⟩
  cases al
 rename_i hk;rw[if_neg hk];dsimp only at al⊢;split
 .exact h
 rename_i hn;obtain⟨h1,h2,h3⟩:=uc (l:=w.calls) (aA:=e.aA) om;have hq:=h.call h1;obtain⟨he,_⟩:=wa h3;split
 .refine h.N5 h1 h3 ⟨hq.aA,hq.num,hq.keys,hq.val,hq.ctx,hq.aL,hq.bq,hq.fits,hq.has,hq.sorted,hq.cH,hq.vI,hq.full,hq.put,hq.read,hq.open_,λe=>absurd he e⟩ rfl rfl rfl
 exact h.send (N4 hq)
def oH {s:Server} {m:aw} (h:m.kind=1):en s m=((gX s m).1,(gX s m).2):=by unfold en;rw[if_pos h]
def oI {s:Server} {m:aw} (h:m.kind=3):en s m=(s,iA s m):=by unfold en;rw[h];rfl
def oJ {s:Server} {m:aw} (h:m.kind=5):en s m=((gY s m).1,(gY s m).2):=by unfold en;rw[h];rfl
def oK {s:Server} {m:aw} (h:m.kind=6):en s m=(ny s m,[]):=by unfold en;rw[h];rfl
def pT {s:Server} {m:aw} (h:m.kind=7) (h2:((jk s.ar ⟨m.key,m.ax⟩).isSome&&(m.aY==eS s.site))=true) (hc:bY s.ar=true):en s m=(s,[lj s m]):=by
 rw[yx hc] at h2;unfold en;rw[h];show(s,nD s m)=_;unfold nD;rw[h2];rfl
def pU {s:Server} {m:aw} (h:m.kind=7) (h2:((jk s.ar ⟨m.key,m.ax⟩).isSome&&(m.aY==eS s.site))=false) (hc:bY s.ar=true):en s m=(s,[]):=by
 rw[yx hc] at h2;unfold en;rw[h];show(s,nD s m)=_;unfold nD;rw[h2];rfl
def oL {s:Server} {m:aw} (h:m.kind=8):en s m=(nk s m,[]):=by unfold en;rw[h];rfl
def oM {s:Server} {m:aw} (h:m.kind=9):en s m=((g8 s m).1,(g8 s m).2):=by unfold en;rw[h];rfl
def oN {s:Server} {m:aw} (h:m.kind=10):en s m=(nz s m,[]):=by unfold en;rw[h];rfl
def pV {s:Server} {m:aw} (h1:¬m.kind=1) (h3:¬m.kind=3) (h5:¬m.kind=5) (h6:¬m.kind=6) (h7:¬m.kind=7) (h8:¬m.kind=8) (h9:¬m.kind=9) (AT:¬m.kind=10):en s m=(s,[]):=by
 unfold en;rw[if_neg h1,if_neg h3,if_neg h5,if_neg h6,if_neg h7,if_neg h8,if_neg h9,if_neg AT]
def Ox (s:Server) (m:aw):(en s m).2.length<=1:=by
 unfold en;repeat' split
 .exact VT s m
 .exact Ya s m
 .exact VU s m
 .simp
 .show(nD s m).length<=1;unfold nD;split<;>simp
 .simp
 .exact Yw s m
 .simp
 simp
def Gf {s:Server} (hu:s.up=true) (h3:s.aN.length=3):lW s (yv s)=kd s:=by
 unfold lW g7 mK kd;rw[hu,if_pos rfl,List.take_length,<-h3,Yb]
def Oy {s:Server} (hg:bA s):(kd s).length<=1000:=by
 by_cases hu:s.up=true
 .have h1:=wm s s.aE.length (Nat.le_refl _);have h2:=gZ hg.aE;have h3:=wq (s:=s) (λv hv=>dY (jL (gP hg.waits v hv)).2.2) s.waits.length (Nat.le_refl _);have h4:=fV hg.waits;rw[FC s (Nat.le_refl _)] at h3;rw[<-Gf hu hg.aN];unfold lW;rw[List.length_append,List.length_map];omega
 unfold kd;rw[if_neg hu];simp
def YR (s:Server) (hg:bA s):
 Fn prog 278 [s.av] (cU (kd s)):=by
 refine Fn.go 155 func278 ntmps278 (λW I a U=>?_);have al:=iL.2 hg;have cK:=hg.ok;have lens:s.aN.length<=9223372036854775807/\s.ar.length<=9223372036854775807/\s.waits.length<=9223372036854775807/\s.aE.length<=9223372036854775807/\s.bn.length<=9223372036854775807:=⟨U.ln 0 2,U.ln 0 3,U.ln 0 4,U.ln 0 5,U.ln 0 6⟩;have h3:=hg.aN;have vD:=fV hg.ar;have jM:=fV hg.waits;have iO:=gZ hg.aE;have iN:∀v∈s.waits,v.aS.length<=6:=λv hv=>dY (jL (gP hg.waits v hv)).2.2;have YS:=Fj hg.site;refine aq λI a w U=>?_;refine U.l0 λra I a w U=>?_;refine aF λI a w U=>?_;refine U.o (.c1 (rR ..)) λU=>?_;refine iU λI a w U=>?_;refine U.cd (λae=>?_) λae=>?_
 .rw[Bm] at ae;replace ae:=nt ae;refine aq λI a w U=>?_;obtain⟨I,U⟩:=U.fr 0 2;refine U.rt ?_;exact(by rw[al,Bool.true_and] at ae;rw[Oo ae];rfl)
 rw[Bm] at ae;replace ae:=nf ae;rw[Bool.and_eq_true] at ae;refine ao λI a w U=>?_;refine St.lo (σ:=Nat×Value) (run 2 3 (run 20 24 [])) ⟨λ⟨n,v⟩=>[(4,AV.int n),(3,AV.val v)],λ⟨n,v⟩=>[Own.row v 108 15 ((mK s n).map aw.cells)],λ⟨n,v⟩=>n<=s.aN.length⟩ (λ⟨n,v⟩=>s.aN.length-n) (0,.slice (some ⟨ra,0,none⟩) 0 0) U ?aH ?bx;case aH=>exact Nat.zero_le _
 rintro⟨n,v⟩ I a w al U;have hn:n<=s.aN.length:=al;dsimp only at U;refine cn λI a w U=>?_;refine cz (λah=>?_) λah=>?_
 .refine ib λI a w U=>?_;refine cz (λaj=>?_) λaj=>?_
  .refine bc λI a w U=>?_;refine U.o (cq (LZ s (n:Int) cK.ar cK.waits hg.site h3 om iO) (ai (.t rfl) (ai (.t rfl) aB))) λU=>?_;refine U.o (.li [(gj s (n:Int)).cells] fo (.u .nil)) λU=>?_;refine U.append 0 rfl eA cV rfl .tt .r rfl (by have:=FA s n;simp;omega) λBQ a w U=>?_;rw[bN,Np (by simpa using aj)] at U;refine aV λI a w U=>?_;exact U.ag (n+1,BQ) (ah)
  refine aM λI a w U=>?_;rw[Nq (by simpa using aj)] at U;exact U.ag (n+1,v) (ah)
 refine zt ?_;refine aF λI a w U=>?_;refine U.o (.c1 (nR ..)) λU=>?_;refine U.o (mS .c .tt (λ_=>by omega)) λU=>?_;refine aq λI a w U=>?_;rw[Nw om] at U;refine ao λI a w U=>?_;refine St.lo (σ:=Nat×Value) (3::(run 4 6 (run 49 49 []))) ⟨λ⟨k,v⟩=>[(6,AV.int k),(3,AV.val v)],λ⟨k,v⟩=>[Own.row v 108 15 ((g7 s k).map aw.cells)],λ⟨k,v⟩=>k<=s.aE.length⟩ (λ⟨k,v⟩=>s.aE.length-k) (0,v) U ?dC ?iJ;case dC=>exact Nat.zero_le _
 rintro⟨k,v⟩ I a w al U;have hk:k<=s.aE.length:=al;dsimp only at U;refine cn λI a w U=>?_;refine cz (λaG=>?_) λaG=>?_
 .refine zt ?_;have U:=U.fP;refine U.db [([],none),([],none),([],none),([],none),([],none),([],none),([],none),([],none),([],none),([],none),([],none),([],none),([],none),([],none),([],none),([],none),([],none),([],none),([1],some (1,[7])),([1],some (1,[7])),([],none)] aP aP rfl ?_;refine qz ?_;refine .o (.cl (pC ..)) ?_;refine dw ?_;refine aI.alloc 1 rfl rfl bL dy<|aI.pk 1 rfl bL rfl .tt rfl rfl ?_;refine aW ?_;refine .nil ?_;intro I a w U;obtain⟨b7,U⟩:=U.lI (d:=7) 1 rfl rfl;obtain⟨I,U⟩:=U.fb 1 7;obtain⟨vd,pR,yz,mH⟩:=Nt hg (bB aG);have YT:jk s.ar ⟨(ab s.aE k).key,(ab s.aE k).ax⟩=some vd:=by rw[yx hg.ar];exact pR
  rw[show(jk s.ar ⟨(ab s.aE k).key,(ab s.aE k).ax⟩).getD default=vd from by rw[YT];rfl] at U;refine ba<|wp_seq<|wp_seq<|U.dk ?_;refine dq ?_;refine .o (.c1 (rM ..)) ?_;refine .o ((by first|exact dE fq dR .tt .tt (λ_=>by have:=nU (nT (gP hg.ar vd mH));omega)|exact eG fq dR .tt .tt (λ_=>by have:=nU (nT (gP hg.ar vd mH));omega)|exact eM fq dR .tt .tt (λ_=>by have:=nU (nT (gP hg.ar vd mH));omega))) ?_;refine dw ?_;refine .nil ?_;intro I a w U;refine ba ?_;refine cz (λaK=>?_) λaK=>?_
  .refine zt ?_;refine aM λI a w U=>?_;have U:=U.drop 1;rw[WY aG yz (by simpa using aK)] at U;exact U.ag (k+1,v) (aG)
  refine wp_skip<|ba<|wp_seq ?_;rw[show g7 s k=g7 s k++(jy s (ab s.aE k)).take 0 from by simp] at U;refine ao λI a w U=>?_;refine St.lo (σ:=Nat×Value) (3::(9::(run 15 83 []))) ⟨λ⟨j,v2⟩=>[(9,AV.int j),(3,AV.val v2)],λ⟨j,v2⟩=>[Own.row v2 108 15 ((g7 s k++(jy s (ab s.aE k)).take j).map aw.cells),Own.gone],λ⟨j,v2⟩=>j<=2⟩ (λ⟨j,v2⟩=>2-j) (0,v) U ?fU ?kT;case fU=>exact Nat.zero_le _
  rintro⟨j,v2⟩ I a w al U;have hj:j<=2:=al;dsimp only at U;refine aq λI a w U=>?_;refine cz (λbh=>?_) λbh=>?_
  .refine fm λI a w U=>?_;refine U.o (.li [vd.cells] iy (.u .nil)) λU=>?_;refine U.o (.bd dr (.k (.k (.k (.k aT.nil))))) λU=>?_;refine U.o (.li [({bW with kind:=5,aY:=s.site,to:=2-2*ct s.site+(j:Int),ar:=[vd]}:aw).cells] fo (.u .nil)) λU=>?_;refine U.append 0 rfl eA cV rfl .tt .r rfl (by have:=wm s k hk;simp;omega) λYU a w U=>?_;rw[bN,Nx (by unfold eB;rw[<-yz];simpa using aK) pR om] at U;refine aV λI a w U=>?_;exact U.ag (j+1,YU) (by show j+1<=2;omega)
  refine zt ?_;refine aM λI a w U=>?_;have U:=U.drop 1;rw[Ny aG om] at U;exact U.ag (k+1,v2) (aG)
 refine zt ?_;refine U.l0 λYV I a w U=>?_;refine ao λI a w U=>?_;rw[NQ om] at U;refine ao λI a w U=>?_;refine St.lo (σ:=Nat×Value×Value) (3::(run 4 10 (run 54 99 []))) ⟨λ⟨i,v,u⟩=>[(11,AV.int i),(3,AV.val v),(10,AV.val u)],λ⟨i,v,u⟩=>[Own.row v 108 15 ((lW s (lr s i)).map aw.cells),Own.row u 125 3 ((lr s i).map an.cells)],λ⟨i,v,u⟩=>i<=s.waits.length⟩ (λ⟨i,v,u⟩=>s.waits.length-i) (0,v,.slice (some ⟨YV,0,none⟩) 0 0) U ?ue ?Gg;case ue=>exact Nat.zero_le _
 rintro⟨i,v,u⟩ I a w al U;have hi:i<=s.waits.length:=al;dsimp only at U;refine cn λI a w U=>?_;refine cz (λaZ=>?_) λaZ=>?_
 .refine ao λI a w U=>?_;refine St.lo (σ:=Nat×Value×Value) (3::(10::(run 2 12 (run 47 106 [])))) ⟨λ⟨j,v2,u2⟩=>[(12,AV.int j),(3,AV.val v2),(10,AV.val u2)],λ⟨j,v2,u2⟩=>[Own.row v2 108 15 ((lW s (ir s i j)).map aw.cells),Own.row u2 125 3 ((ir s i j).map an.cells)],λ⟨j,v2,u2⟩=>j<=(ab s.waits i).aS.length⟩ (λ⟨j,v2,u2⟩=>(ab s.waits i).aS.length-j) (0,v,u) U ?Gh ?YW;case Gh=>exact Nat.zero_le _
  rintro⟨j,v2,u2⟩ I a w al U;have hj:j<=(ab s.waits i).aS.length:=al;have YX:=iN _ (bB aZ);dsimp only at U;refine m4 λI a w U=>?_;refine cz (λbT=>?_) λbT=>?_
  .refine tb λI a w U=>?_;refine U.alloc rfl cx ez λBR I a w U=>?_;refine ao λI a w U=>?_;obtain⟨I,U⟩:=U.fb 2 13;refine aF λI a w U=>?_;refine U.o (.c2 (Lg s _ cK.ar)) λU=>?_;refine bj λI a w U=>?_;refine U.q .T (z6 1 (ai .ag (ai .ag aB)) rfl (xR (ir s i j) (ab (ab s.waits i).aS j)) (λ_ _ _ h=>h)) λU=>?_;refine aq λI a w U=>?_;refine U.cd (λcO=>?_) λcO=>?_
   .refine aF λI a w U=>?_;refine U.o (.li [(ab (ab s.waits i).aS j).cells] eJ (.u .nil)) λU=>?_;refine U.append 1 rfl c4 cx rfl .tt .r rfl (by have:=wq iN i hi;have:=yy s i j;have:=iN _ (bB aZ);simp;omega) λYY a w U=>?_;rw[bN,show ir s i j++[(ab (ab s.waits i).aS j)]=ir s i (j+1) from by rw[wo bT,Bx cO]] at U;refine ao λI a w U=>?_;refine U.dt 12 ?_;simp only[TD];refine eP ?_;refine .o (.c1 (vE _ hg.site)) ?_;refine dq ?_;refine .o (.bd dr (.k (.k (.k (.k (.t aT.nil)))))) ?_;refine .o (.li [(kt s (ab (ab s.waits i).aS j)).cells] fo (.u .nil)) ?_;refine .nil ?_;intro I a w U;refine U.append 0 rfl eA cV rfl .tt .r rfl (by have:=wq iN i hi;have:=yy s i j;have:=iN _ (bB aZ);have:=wm s _ (Nat.le_refl s.aE.length);simp[lW];omega) λYZ a w U=>?_;rw[bN,NP,show ir s i j++[(ab (ab s.waits i).aS j)]=ir s i (j+1) from by rw[wo bT,Bx cO]] at U;refine aV λI a w U=>?_;have U:=U.drop 2;exact U.ag (j+1,YZ,YY) (bT)
   refine aM λI a w U=>?_;have U:=U.drop 2;rw[show ir s i j=ir s i (j+1) from by rw[wo bT,Nv cO]] at U;exact U.ag (j+1,v2,u2) (bT)
  refine zt ?_;refine aM λI a w U=>?_;rw[FB aZ om] at U;exact U.ag (i+1,v2,u2) (aZ)
 refine wp_exit<|cm<|cm<|dS<|ba<|wp_seq ?_;rw[FC s om,Gf ae.2 h3] at U;obtain⟨I,U⟩:=U.fr 0 3;refine bw λI a w U=>?_;refine U.o (cq (Fe (kd s) (by have:=Oy hg;omega) (λy hy=>tO (F6 hg y hy))) (ai .r aB)) λU=>?_;refine bk ?_;rfl
def Y0 {q:Call} {k:Nat} (hw:g0 q=true) (hk:¬q.kind=1) (h:q.aL.length<=k):pS q k=jo q:=by
 unfold jo asks pS nA;rw[if_pos hw,if_neg hk,List.take_length,List.take_of_length_le h,List.map_append,List.flatten_append,List.map_map,List.map_map];rfl
def Y1 {s:Server} {m:aw} (h:(m.kind==8&&(m.aY==eS s.site)&&gV s ⟨m.key,m.ax⟩&&decide ((s.bn.length:Int)<80))=true):en s m=(gW {s with bn:=ek s.bn ⟨m.key,m.ax⟩},[]):=by
 simp only[Bool.and_eq_true,beq_iff_eq,decide_eq_true_eq] at h;have hl:s.bn.length<80:=by omega
 rw[oL h.1.1.1];unfold nk;rw[if_pos (by simp only[Bool.and_eq_true,beq_iff_eq,decide_eq_true_eq];exact⟨⟨h.1.1.2,h.1.2⟩,hl⟩)]
def Y2 {s:Server} {m:aw} (hm:bQ m=true) (h1:(m.kind==1&&eN (m.aY-10)&&decide (0<m.call)&&fw s m.key)=false) (h2:(m.kind==3&&eN (m.aY-10)&&decide (0<m.call)&&fw s m.key)=false)
 (h3:(m.kind==5&&(cQ m.aY&&(ct m.aY !=ct s.site)))=false) (h4:(m.kind==6&&(cQ m.aY&&(ct m.aY !=ct s.site))&&fw s m.key)=false) (h5:(m.kind==7&&(m.aY==eS s.site)&&decide (0<=placeOf s.ar ⟨m.key,m.ax⟩))=false)
 (h6:(m.kind==8&&(m.aY==eS s.site)&&gV s ⟨m.key,m.ax⟩&&decide ((s.bn.length:Int)<80))=false) (h7:(m.kind==9&&(m.aY==eS s.site)&&decide (0<m.bU))=false)
 (h8:(m.kind==10&&(m.aY==eS s.site)&&([(ab s.aN m.slot.toNat).bU,(ab s.aN m.slot.toNat).eH]==[m.bU,2]))=false):en s m=(s,[]):=by
 rw[Bool.and_assoc] at h4 h5 h7 h8;rw[Bool.and_assoc,Bool.and_assoc] at h6;unfold en;by_cases k1:m.kind=1
 .rw[if_pos k1];unfold gX;rw[L7 h1 k1];rfl
 rw[if_neg k1];by_cases k3:m.kind=3
 .rw[if_pos k3];unfold iA;rw[L7 h2 k3];rfl
 rw[if_neg k3];by_cases k5:m.kind=5
 .rw[if_pos k5];unfold gY rT;rw[wb h3 k5];rfl
 rw[if_neg k5];by_cases k6:m.kind=6
 .have h:=wb h4 k6;rw[if_pos k6];unfold ny;rw[if_neg];intro e;unfold fw at h;rw[Nc hm,Bool.true_and] at h;simp only[Bool.and_eq_true] at e;rw[e.1.1.1,e.1.1.2,e.2] at h;cases h
 rw[if_neg k6];by_cases k7:m.kind=7
 .have h:=wb h5 k7;rw[if_pos k7];unfold nD ja;rw[if_neg];intro e;rw[Bool.and_eq_true] at e;split at e
  .rename_i hp;rw[e.2,decide_eq_true hp] at h;cases h
  cases e.1
 rw[if_neg k7];by_cases k8:m.kind=8
 .have h:=wb h6 k8;rw[if_pos k8];unfold nk;rw[if_neg];intro e;simp only[Bool.and_eq_true,decide_eq_true_eq] at e;rw[e.1.1,e.1.2,decide_eq_true om] at h;cases h
 rw[if_neg k8];by_cases k9:m.kind=9
 .have h:=wb h7 k9;rw[if_pos k9];unfold g8;rw[if_neg];intro e;simp only[Bool.and_eq_true,decide_eq_true_eq] at e;rw[e.1,decide_eq_true om] at h;cases h
 rw[if_neg k9];by_cases pW:m.kind=10
 .have h:=wb h8 pW;rw[if_pos pW];unfold nz;rw[if_neg];intro e;simp only[Bool.and_eq_true,beq_iff_eq] at e;rw[e.1.2,e.2,e.1.1] at h;simp at h
 rw[if_neg pW]
def su {w:aJ} {e:Ev} (h:aQ e.word 0 ((w.au.length:Int)-1)=true):iM w e=if e.kind=5 then({w with au:=gN w e},true) else if aQ (ab w.au e.word.toNat).to 10 11=true then(oF {w with au:=gN w e} (ab w.au e.word.toNat),true)
 else({w with aC:=w.aC.set (ab w.au e.word.toNat).to.toNat (gq (ab w.aC (ab w.au e.word.toNat).to.toNat) (ab w.au e.word.toNat)).1,au:=eC (gN w e) (gq (ab w.aC (ab w.au e.word.toNat).to.toNat) (ab w.au e.word.toNat)).2},true):=by
 unfold iM;rw[if_pos h,Wq]
def BS {w:aJ} {e:Ev} (h:aQ e.word 0 ((w.au.length:Int)-1)=false):iM w e=(w,false):=by unfold iM;rw[h];rfl
def Y3 {w:aJ} {e:Ev} (h:e.kind=1):jc w e=((kb w e).1,(kb w e).2):=by unfold jc;rw[if_pos h]
def Y4 {w:aJ} {e:Ev} (h:¬e.kind=1) (hn:cw w.calls e.aA<0):jc w e=(w,false):=by unfold jc;rw[if_neg h];dsimp only;rw[if_pos hn]
def Y5 {w:aJ} {e:Ev} (h:¬e.kind=1) (hn:0<=cw w.calls e.aA) (h3:e.kind=3):jc w e=({w with calls:=w.calls.set (cw w.calls e.aA).toNat {ab w.calls (cw w.calls e.aA).toNat with over:=true}},true):=by unfold jc;rw[if_neg h];dsimp only;rw[if_neg om,if_pos h3]
def Y6 {w:aJ} {e:Ev} (h:¬e.kind=1) (hn:0<=cw w.calls e.aA) (h3:¬e.kind=3):jc w e=({w with au:=eC w.au (jo (ab w.calls (cw w.calls e.aA).toNat))},true):=by unfold jc;rw[if_neg h];dsimp only;rw[if_neg om,if_neg h3]
def Y7 {w:aJ} {e:Ev} (h:((e.kind==1)||(e.kind==2)||(e.kind==3))=false) (h2:((e.kind==4)||(e.kind==5))=true):eU w e=((iM {w with time:=w.time+1} e).1,(iM {w with time:=w.time+1} e).2):=by unfold eU;rw[if_neg (by simp at h;omega),if_pos (by simpa using h2)]
def Y8 {w:aJ} {e:Ev} (h:((e.kind==1)||(e.kind==2)||(e.kind==3))=false) (h2:((e.kind==4)||(e.kind==5))=false) (h3:(!aQ e.kind 6 9||!cQ e.at_)=true):eU w e=({w with time:=w.time+1},false):=by
 unfold eU;rw[if_neg (by simp at h;omega),if_neg (by simpa using h2),if_neg (by simp at h3;simp;intro h9;rcases h3 with h'|h';(rw[h'] at h9;cases h9);exact h')]
inductive Reach:aJ->Prop
 |start:Reach gC
 |step {w:aJ} {e:Ev}:Reach w->(eU w e).2=true->Reach (eU w e).1
def Oz (br:Nat) (code:List UInt8) (p:Int) (hp:0<=p/\p<=1099510000000) (aR:code.length<=1099511627776):
 bJ prog 296 [AV.val (.pointer (some ⟨br,0,none⟩))] [Own.box br 147 [cy code,AV.int (p)]] (λr:aD×Int=>pM r.1/\p<=r.2/\r.2<=p+30) (λr=>[Own.box br 147 [cy code,AV.int (r.2)]]) (λr=>r.1.av):=by
 refine bJ.intro 87 func296 rfl ntmps296 rfl aP (λW I a U=>?_);refine sr<|U.alloc rfl bL dy λb2 I a w U=>?_;refine bw λI a w U=>?_;refine U.bz [0] (eT br code (p) (6) om aR) (ai .tt (ai .c aB)) rfl aO rfl λ⟨x7,q7⟩ I a w mM U=>?_;replace mM:0<=x7/\(0<(6:Int)->x7<(6))/\q7=p+1:=mM;obtain⟨OA,Gi,rfl⟩:=mM;have U:=U.nf;refine U.m λU=>?_;refine U.bz [0] (eT br code (p+1) (9) om aR) (ai .tt (ai .c aB)) rfl aO rfl λ⟨x9,q9⟩ I a w lu U=>?_;replace lu:0<=x9/\(0<(9:Int)->x9<(9))/\q9=p+1+1:=lu;obtain⟨BH,BI,rfl⟩:=lu;have U:=U.nf;refine aF λI a w U=>?_;refine U.bz [0] (eT br code (p+1+1) (4) om aR) (ai .tt (ai .c aB)) rfl aO rfl λ⟨Gj,Y9⟩ I a w BT U=>?_;replace BT:0<=Gj/\(0<(4:Int)->Gj<(4))/\Y9=p+1+1+1:=BT;obtain⟨aiP,aiQ,rfl⟩:=BT;have U:=U.nf;refine U.o (.bd gx (.k (.k aT.nil))) λU=>?_;refine U.m λU=>?_;refine U.bz [0] (eT br code (p+1+1+1) (90) om aR) (ai .tt (ai .c aB)) rfl aO rfl λ⟨BU,Za⟩ I a w BV U=>?_;replace BV:0<=BU/\(0<(90:Int)->BU<(90))/\Za=p+1+1+1+1:=BV;obtain⟨OB,OC,rfl⟩:=BV;have U:=U.nf;refine U.m λU=>?_;refine U.bz [0] (eT br code (p+1+1+1+1) (2) om aR) (ai .tt (ai .c aB)) rfl aO rfl λ⟨wy,Gk⟩ I a w uf U=>?_;replace uf:0<=wy/\(0<(2:Int)->wy<(2))/\Gk=p+1+1+1+1+1:=uf;obtain⟨Zb,Zc,rfl⟩:=uf;have U:=U.nf;refine U.m λU=>?_;refine U.bz [0] (eT br code (p+1+1+1+1+1) (6) om aR) (ai .tt (ai .c aB)) rfl aO rfl λ⟨yJ,Zd⟩ I a w Gl U=>?_;replace Gl:0<=yJ/\(0<(6:Int)->yJ<(6))/\Zd=p+1+1+1+1+1+1:=Gl;obtain⟨OD,aiR,rfl⟩:=Gl;have U:=U.nf;refine U.o .DZ λU=>?_;refine U.o (.bd dy (.k (.t (.k (.k (.k aT.nil)))))) λU=>?_;refine U.alloc rfl bL dy λb3 I a w U=>?_;refine aF λI a w U=>?_;refine U.bz [0] (eT br code (p+1+1+1+1+1+1) (4) om aR) (ai .tt (ai .c aB)) rfl aO rfl λ⟨Gm,Ze⟩ I a w ug U=>?_;replace ug:0<=Gm/\(0<(4:Int)->Gm<(4))/\Ze=p+1+1+1+1+1+1+1:=ug;obtain⟨Zf,OE,rfl⟩:=ug;have U:=U.nf;refine ao λI a w U=>?_;refine St.lo (σ:=Int×aD×Int) (run 2 4 (run 23 24 [])) ⟨λ⟨m,u,p1⟩=>[(4,AV.int m)],λ⟨m,u,p1⟩=>[Own.box br 147 [cy code,AV.int (p1)],Own.box b2 54 [AV.val (.int .i64 0),AV.val (.int .i64 0),AV.val (.int .i64 0),AV.val (.int .i64 0),AV.val (.int .i64 0),AV.val (.int .i64 0),AV.rows 3 []],Own.box b3 54 (u:aD).cells],λ⟨m,u,p1⟩=>bP u.aS=true/\0<=m/\m<=3/\p<=p1/\p1<=p+7+4*(3-m)⟩ (λ⟨m,u,p1⟩=>m.toNat) (Gm,⟨x7,⟨1+x9,Gj⟩,BU,wy,1+yJ,[]⟩,p+1+1+1+1+1+1+1) U ?aH ?bx;case aH=>exact⟨rfl,Zf,by have:=OE om;omega,by omega,by have:=OE om;omega⟩
 rintro⟨m,u,p1⟩ I a w al U;obtain⟨hl,zS,OF,Gn,uU⟩:=al;dsimp only at U;refine aq λI a w U=>?_;refine cz (λae=>?_) λae=>?_
 .refine bw λI a w U=>?_;refine U.bz [0] (NY br code p1 om aR) (ai .tt aB) rfl aO rfl λ⟨d29,Zg⟩ I a w Gp U=>?_;replace Gp:gU d29=true/\Zg=p1+3:=Gp;obtain⟨OG,rfl⟩:=Gp;have U:=U.nf;refine U.alloc rfl cx ez λb5 I a w U=>?_;refine ao λI a w U=>?_;obtain⟨I,U⟩:=U.fb 3 5;refine tb λI a w U=>?_;refine U.DR 0 (IE rfl rfl rfl) rfl rfl (cW br code (p1+3) 20 om aR) (ai .ag (ai .c aB)) λI a w U=>?_;have hq:∀G:Bool,∃p2:Int,(bif G then Own.box br 147 [cy code,AV.int (p1+3+1)] else Own.box br 147 [cy code,AV.int (p1+3)])=Own.box br 147 [cy code,AV.int (p2)]/\p1+3<=p2/\p2<=p1+4:=λG=>by cases G;exact⟨p1+3,rfl,by omega,by omega⟩;exact⟨p1+3+1,rfl,by omega,by omega⟩
  obtain⟨p2,e2,yK,OH⟩:=hq (!decide (d29.ax.time<u.ax.time));change St _ _ [(bif (!decide (d29.ax.time<u.ax.time)) then Own.box br 147 [cy code,AV.int (p1+3+1)] else Own.box br 147 [cy code,AV.int (p1+3)]),Own.box b2 54 [AV.val (.int .i64 0),AV.val (.int .i64 0),AV.val (.int .i64 0),AV.val (.int .i64 0),AV.val (.int .i64 0),AV.val (.int .i64 0),AV.rows 3 []],Own.box b3 54 (u:aD).cells,Own.gone] _ _ _ at U;rw[e2] at U;refine aq λI a w U=>?_;refine U.cd (λah=>?_) λah=>?_
  .refine bc λI a w U=>?_;refine U.o (.cl (A0 u.aS d29 hl OG)) λU=>?_;refine cn λI a w U=>?_;have U:=U.drop 3;exact U.ag (m-1,{u with aS:=fR u.aS d29},p2) (⟨NJ hl OG,by show 0<=m-1;omega,by show m-1<=3;omega,by show p<=p2;omega,by show p2<=_;omega⟩)
  refine aM λI a w U=>?_;have U:=U.drop 3;exact U.ag (m-1,u,p2) (⟨hl,by show 0<=m-1;omega,by show m-1<=3;omega,by show p<=p2;omega,by show p2<=_;omega⟩)
 refine zt ?_;refine U.m λU=>?_;refine U.bz [0] (eT br code (p1) (24) om aR) (ai .tt (ai .c aB)) rfl aO rfl λ⟨OI,Zh⟩ I a w Gq U=>?_;replace Gq:0<=OI/\(0<(24:Int)->OI<(24))/\Zh=p1+1:=Gq;obtain⟨aiS,aiT,rfl⟩:=Gq;have U:=U.nf;refine aq λI a w U=>?_;refine cz (λaj=>?_) λaj=>?_
 .refine St.region ?_;refine U.o (.li (([-1,6]:List Int).map iP) ix (.v (.v .nil))) λU=>?_;refine U.m λU=>?_;refine U.bz [0] (eT br code (p1+1) (2) om aR) (ai .tt (ai .c aB)) rfl aO rfl λ⟨BW,Zi⟩ I a w sv U=>?_;replace sv:0<=BW/\(0<(2:Int)->BW<(2))/\Zi=p1+1+1:=sv;obtain⟨aiU,aiV,rfl⟩:=sv;have U:=U.nf;refine U.o ((by first|exact dE cG cB .tt .tt (λ_=>by simp only[List.length_map,List.length_cons,List.length_nil];omega)|exact eG cG cB .tt .tt (λ_=>by simp only[List.length_map,List.length_cons,List.length_nil];omega)|exact eM cG cB .tt .tt (λ_=>by simp only[List.length_map,List.length_cons,List.length_nil];omega))) λU=>?_;refine cn λI a w U=>?_;have iN:pM ({u with key:=ab ([-1,6]:List Int) BW.toNat}):=dY hl;refine U.bD ({u with key:=ab ([-1,6]:List Int) BW.toNat},p1+1+1) [0] rfl (.cons (.sx 1) .nil) (by dsimp only;exact⟨iN,by omega,by omega⟩) rfl rfl
 refine aq λI a w U=>?_;refine cz (λaG=>?_) λaG=>?_
 .refine bw λI a w U=>?_;refine U.bz [0] (yG br code (p1+1) om aR) (ai .tt aB) rfl aO rfl λ⟨OJ,Gr⟩ I a w OK U=>?_;replace OK:p1+1<=Gr/\Gr<=p1+1+4:=OK;refine U.o .fv λU=>U.mX 2 iH .tt .tt rfl rfl rfl λa w U=>?_;refine aq λI a w U=>?_;have iN:pM ({u with ax:=OJ}):=dY hl;refine U.bD ({u with ax:=OJ},Gr) [0] rfl (.cons (.sx 1) .nil) (by dsimp only;exact⟨iN,by omega,by omega⟩) rfl rfl
 refine aq λI a w U=>?_;refine cz (λaK=>?_) λaK=>?_
 .refine St.region ?_;refine U.o (.li (([-1,9999,10000]:List Int).map iP) ix (.v (.v (.v .nil)))) λU=>?_;refine U.m λU=>?_;refine U.bz [0] (eT br code (p1+1) (3) om aR) (ai .tt (ai .c aB)) rfl aO rfl λ⟨BX,Zj⟩ I a w Gs U=>?_;replace Gs:0<=BX/\(0<(3:Int)->BX<(3))/\Zj=p1+1+1:=Gs;obtain⟨aiW,aiX,rfl⟩:=Gs;have U:=U.nf;refine U.o ((by first|exact dE cG cB .tt .tt (λ_=>by simp only[List.length_map,List.length_cons,List.length_nil];omega)|exact eG cG cB .tt .tt (λ_=>by simp only[List.length_map,List.length_cons,List.length_nil];omega)|exact eM cG cB .tt .tt (λ_=>by simp only[List.length_map,List.length_cons,List.length_nil];omega))) λU=>?_;refine cn λI a w U=>?_;have iN:pM ({u with val:=ab ([-1,9999,10000]:List Int) BX.toNat}):=dY hl;refine U.bD ({u with val:=ab ([-1,9999,10000]:List Int) BX.toNat},p1+1+1) [0] rfl (.cons (.sx 1) .nil) (by dsimp only;exact⟨iN,by omega,by omega⟩) rfl rfl
 refine aq λI a w U=>?_;refine cz (λbh=>?_) λbh=>?_
 .refine St.region ?_;refine U.o (.li (([0,99,100]:List Int).map iP) ix (.v (.v (.v .nil)))) λU=>?_;refine U.m λU=>?_;refine U.bz [0] (eT br code (p1+1) (3) om aR) (ai .tt (ai .c aB)) rfl aO rfl λ⟨BY,Zk⟩ I a w uh U=>?_;replace uh:0<=BY/\(0<(3:Int)->BY<(3))/\Zk=p1+1+1:=uh;obtain⟨aiY,aiZ,rfl⟩:=uh;have U:=U.nf;refine U.o ((by first|exact dE cG cB .tt .tt (λ_=>by simp only[List.length_map,List.length_cons,List.length_nil];omega)|exact eG cG cB .tt .tt (λ_=>by simp only[List.length_map,List.length_cons,List.length_nil];omega)|exact eM cG cB .tt .tt (λ_=>by simp only[List.length_map,List.length_cons,List.length_nil];omega))) λU=>?_;refine cn λI a w U=>?_;have iN:pM ({u with call:=ab ([0,99,100]:List Int) BY.toNat}):=dY hl;refine U.bD ({u with call:=ab ([0,99,100]:List Int) BY.toNat},p1+1+1) [0] rfl (.cons (.sx 1) .nil) (by dsimp only;exact⟨iN,by omega,by omega⟩) rfl rfl
 refine aq λI a w U=>?_;refine cz (λaZ=>?_) λaZ=>?_
 .refine St.region ?_;refine U.o (.li (([-1,2]:List Int).map iP) ix (.v (.v .nil))) λU=>?_;refine U.m λU=>?_;refine U.bz [0] (eT br code (p1+1) (2) om aR) (ai .tt (ai .c aB)) rfl aO rfl λ⟨BZ,Zl⟩ I a w Gt U=>?_;replace Gt:0<=BZ/\(0<(2:Int)->BZ<(2))/\Zl=p1+1+1:=Gt;obtain⟨ai0,ai1,rfl⟩:=Gt;have U:=U.nf;refine U.o ((by first|exact dE cG cB .tt .tt (λ_=>by simp only[List.length_map,List.length_cons,List.length_nil];omega)|exact eG cG cB .tt .tt (λ_=>by simp only[List.length_map,List.length_cons,List.length_nil];omega)|exact eM cG cB .tt .tt (λ_=>by simp only[List.length_map,List.length_cons,List.length_nil];omega))) λU=>?_;refine cn λI a w U=>?_;have iN:pM ({u with aA:=ab ([-1,2]:List Int) BZ.toNat}):=dY hl;refine U.bD ({u with aA:=ab ([-1,2]:List Int) BZ.toNat},p1+1+1) [0] rfl (.cons (.sx 1) .nil) (by dsimp only;exact⟨iN,by omega,by omega⟩) rfl rfl
 refine aq λI a w U=>?_;have iN:pM (u):=dY hl;refine U.bD (u,p1+1) [0] rfl (.cons (.sx 1) .nil) (by dsimp only;exact⟨iN,by omega,by omega⟩) rfl rfl
def Zm (s:Server) (m:aw) (hg:bA s) (hm:bQ m=true):
 Fn prog 315 [s.av,m.av] (AV.c6 [(g8 s m).1.av,cU (g8 s m).2]):=by
 refine Fn.go 158 func315 ntmps315 (λW I a U=>?_);have al:=iL.2 hg;have cK:=hg.ok;have jM:=mD hm;have ot:=AQ hm;have h3:=hg.aN;have h4:(eb s m.slot).aN.length=3:=h3;have mc:=cK.drop m.slot;have Zn:=fV mc.ar;have hmv:=fV jM.1;have hmw:=fV jM.2.1;have JW:=gZ jM.2.2.1;have Zo:=fV mc.waits;have Zp:=gZ (hg.eb m.slot).aE;have lens:m.aS.length<=9223372036854775807/\m.ar.length<=9223372036854775807/\m.waits.length<=9223372036854775807/\m.aE.length<=9223372036854775807:=⟨U.ln 1 9,U.ln 1 12,U.ln 1 13,U.ln 1 14⟩;have iO:=gZ hg.aE;have e9:∀x,x=cI.cells ⟨m.bU,1⟩->(List.map cI.cells (eb s m.slot).aN).set m.slot.toNat x=List.map cI.cells (tZ s m 0 0 0).aN:=λx h=>by rw[h];exact List.map_set.symm
 refine aF λI a w U=>?_;refine U.alloc rfl ck c9 λb4 I a w U=>?_;refine ao λI a w U=>?_;refine U.l0 λwj I a w U=>?_;obtain⟨I,U⟩:=U.fr 1 12;refine ao λI a w U=>?_;refine U.dk ?_;refine dq ?_;refine .o (.c1 (vE _ hg.site)) ?_;refine gw ?_;refine .nil ?_;intro I a w U;refine ba ?_;refine U.cd (λae=>?_) λae=>?_
 .rw[L1 s m] at ae;replace ae:=nt ae;refine aV λI a w U=>?_;refine U.ret rfl (.cons (.sx 0) (.cons .x aX.nil)) ?_;exact(by rw[Yv ae];rfl)
 rw[L1 s m] at ae;replace ae:=nf ae;refine j3 λI a w U=>?_;refine U.o (.bd dr (.k (.k (.k (.k (.k aT.nil)))))) λU=>?_;refine U.alloc rfl cV dr λb7 I a w U=>?_;refine ao λI a w U=>?_;obtain⟨I,U⟩:=U.fb 2 7;refine ao λI a w U=>?_;refine U.cd (λah=>?_) λah=>?_
 .refine wp_seq ?_;refine U.db (rp 3 [([0],some (0,[])),([],none)]) aP aP rfl ?_;refine cg ?_;refine .o (.li [(mG s m).cells] fo (.u .nil)) ?_;refine aI.de (x:=AV.any) 0 (λF W0 I0 I γ a w Q U kk=>U.sb 0 λU=>kk _ _ _ U) ?_;refine aW ?_;refine .nil ?_;intro I a w U;refine zt ?_;refine U.ret rfl (.cons (.sx 0) (.cons .x aX.nil)) ?_;exact(by rw[Om ae (by simpa using ah)];rfl)
 refine bc λI a w U=>?_;refine U.o (cq (MD s m.slot cK.ar cK.waits om) (ai (.t rfl) (ai (.t rfl) aB))) λU=>?_;refine U.alloc rfl ck c9 λb8 I a w U=>?_;refine SF λI a w U=>?_;refine U.cd (λaj=>?_) λaj=>?_
 .rw[N8 s m] at aj;replace aj:=nt aj;refine aV λI a w U=>?_;refine U.ret rfl (.cons (.sx 0) (.cons .x aX.nil)) ?_;exact(by rw[F9 ae (by simpa using ah) (by rw[aj];rfl)];rfl)
 rw[N8 s m] at aj;replace aj:=nf aj;refine zt ?_;refine U.l0 λb82 I a w U=>?_;refine aF λI a w U=>?_;refine U.ap 4 λv85 a w U=>?_;refine U.o .fv λU=>?_;try have ai6:=U.dK 4 rfl
 refine ao λI a w U=>?_;simp only[List.nil_append] at U;obtain⟨b85,ai8,Zq⟩:=U.gv 4 rfl mR;subst Zq;refine dp λI a w U=>?_;refine U.o (.bd mr (.k (.k aT.nil))) λU=>?_;refine U.o (fj fq dR .tt .tt (λ_=>by simp only[List.length_map];omega)) λU=>?_;refine U.jf 4 dR .tt .tt rfl (by exact dL om) rfl rfl λa w U=>?_;refine zt ?_;rw[e9] at U;rotate_left
 .rfl
 obtain⟨I,U⟩:=U.fu 4 2 3;refine ao λI a w U=>?_;refine St.lo (σ:=Nat) (9::(run 19 95 [])) ⟨λi=>[(9,AV.int i)],λi=>[Own.box b4 95 [AV.val (.int .i64 0),AV.val (.bool false),AV.rows 2 [],AV.rows 7 [],AV.rows 7 [],AV.rows 3 [],AV.rows 3 []],Own.gone,Own.gone,Own.box b8 95 (tZ s m i 0 0).cells,Own.gone],λi=>i<=m.ar.length⟩ (λi=>m.ar.length-i) 0 U ?aH ?bx;case aH=>exact Nat.zero_le _
 rintro i I a w al U;have hi:i<=m.ar.length:=al;dsimp only at U;refine cn λI a w U=>?_;refine cz (λaG=>?_) λaG=>?_
 .refine zt ?_;refine U.db [([],none),([3],none),([],none),([],none),([],none),([],none),([],none),([],none),([],none),([],none),([],none),([],none),([3],some (3,[]))] aP aP rfl ?_;refine aW ?_;refine .r [3] (.lb 3) ?_;refine eP ?_;refine .o (.cl (No mc.ar jM.1 (F8 aj).1 aG)) ?_;refine dq ?_;refine aI.de (x:=AV.any) 3 (λF W0 I0 I γ a w Q U kk=>U.s1 3 λU=>kk _ _ _ U) ?_;refine .nil ?_;intro I a w U;refine aM λI a w U=>?_;exact U.ag (i+1) (aG)
 refine zt ?_;refine ao λI a w U=>?_;refine St.lo (σ:=Nat) (10::(run 19 114 [])) ⟨λj=>[(10,AV.int j)],λj=>[Own.box b4 95 [AV.val (.int .i64 0),AV.val (.bool false),AV.rows 2 [],AV.rows 7 [],AV.rows 7 [],AV.rows 3 [],AV.rows 3 []],Own.gone,Own.gone,Own.box b8 95 (tZ s m i j 0).cells,Own.gone],λj=>j<=m.waits.length⟩ (λj=>m.waits.length-j) 0 U ?dC ?iJ;case dC=>exact Nat.zero_le _
 rintro j I a w al U;have hj:j<=m.waits.length:=al;dsimp only at U;refine cn λI a w U=>?_;refine cz (λaK=>?_) λaK=>?_
 .refine zt ?_;refine U.db [([],none),([3],none),([],none),([],none),([],none),([],none),([],none),([],none),([],none),([],none),([],none),([],none),([3],some (3,[]))] aP aP rfl ?_;refine aW ?_;refine .r [3] (.lb 3) ?_;refine eP ?_;refine .o (.cl (No mc.waits jM.2.1 (F8 aj).2.1 aK)) ?_;refine dq ?_;refine aI.de (x:=AV.any) 3 (λF W0 I0 I γ a w Q U kk=>U.s1 3 λU=>kk _ _ _ U) ?_;refine .nil ?_;intro I a w U;refine aM λI a w U=>?_;exact U.ag (j+1) (aK)
 refine zt ?_;refine ao λI a w U=>?_;refine St.lo (σ:=Nat) (11::(run 16 133 [])) ⟨λk=>[(11,AV.int k)],λk=>[Own.box b4 95 [AV.val (.int .i64 0),AV.val (.bool false),AV.rows 2 [],AV.rows 7 [],AV.rows 7 [],AV.rows 3 [],AV.rows 3 []],Own.gone,Own.gone,Own.box b8 95 (tZ s m i j k).cells,Own.gone],λk=>k<=m.aE.length⟩ (λk=>m.aE.length-k) 0 U ?fU ?kT;case fU=>exact Nat.zero_le _
 rintro k I a w al U;have hk:k<=m.aE.length:=al;dsimp only at U;refine cn λI a w U=>?_;refine cz (λbh=>?_) λbh=>?_
 .refine zt ?_;refine U.dt 9 ?_;simp only[TD];refine jJ ?_;refine .o (.cl (Yu (F8 aj).2.2 bh)) ?_;refine aW ?_;refine .nil ?_;intro I a w U;refine aV λI a w U=>?_;exact U.ag (k+1) (bh)
 refine zt ?_;refine U.o (.ls 3) λU=>U.o (.c1 (rR ..)) λU=>?_;refine ao λI a w U=>?_;refine U.cd (λaZ=>?_) λaZ=>?_
 .rw[(BF s m om om om),Bool.not_eq_true'] at aZ;refine aV λI a w U=>?_;refine U.ret rfl (.cons (.sx 0) (.cons .x aX.nil)) ?_;exact(by rw[F9 ae (by simpa using ah) (by rw[aj,aZ];rfl)];rfl)
 rw[(BF s m om om om),Bool.not_eq_false'] at aZ;refine zt ?_;refine U.db (([3],none)::rp 3 [([0],some (0,[])),([],none)]) aP aP rfl ?_;refine .r [3] (.ls 3) ?_;refine .o (cq (vP (tZ s m i j k) (by rw[(BF s m om om om)];exact(iL.1 aZ).ok)) (ai (.t rfl) aB)) ?_;refine aW ?_;refine .o (.li [(mG s m).cells] fo (.u .nil)) ?_;refine aI.de (x:=AV.any) 0 (λF W0 I0 I γ a w Q U kk=>U.sb 0 λU=>kk _ _ _ U) ?_;refine aW ?_;refine .nil ?_;intro I a w U;refine zt ?_;refine U.ret rfl (.cons (.sx 0) (.cons .x aX.nil)) ?_;exact(by rw[On ae (by simpa using ah) (by rw[aj,aZ];rfl),(BF s m om om om)];rfl)
end Go.Proofs.YtldbakcpcfdlaaaGreat
