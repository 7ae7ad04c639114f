/- Part 17: contracts of functions, plain facts. -/
import Derived.Test.YtldbakcpcfdlaaaGreatA12
import Derived.Test.YtldbakcpcfdlaaaGreatA13
import Derived.Test.YtldbakcpcfdlaaaGreatA14
set_option linter.all false
set_option maxRecDepth 100000
set_option maxHeartbeats 4000000
namespace Go.Proofs.YtldbakcpcfdlaaaGreat
open Go Go.RowKit Tryz
attribute [local irreducible] wpList Code.wp Ok
def NZ (s:cA):
 Fn prog 147 [s.av] (AV.bool (jO s)):=by
 refine Fn.go 9 func147 ntmps147 (λW I a U=>?_);refine bc λI a w U=>?_;refine U.o (.c1 (tz ..)) λU=>?_;refine aF λI a w U=>?_;refine U.q .F (.cl (vJ ..)) λU=>?_;refine dh ?_;rfl
def yH (l:List aD):
 Fn prog 81 [bV l] (AV.bool (bY l)):=by
 refine Fn.go 35 func81 ntmps81 (λW I a U=>?_);have hle:=U.eh (t:=0) rfl;refine aV λI a w U=>?_;refine St.lo (σ:=Nat) (run 3 2 (run 25 7 [])) ⟨λk=>[(7,AV.int k)],λk=>[],λk=>k<=l.length/\∀i,i<k->(et eD ga l) i=true⟩ (λk=>l.length-k) 0 U ?aH ?bx;case aH=>exact⟨by simp,λi hi=>by omega⟩
 rintro k I a w al U;obtain⟨hk,aU⟩:=al;refine ao λI a w U=>?_;refine cz (λae=>?_) λae=>?_
 .refine bc λI a w U=>?_;refine U.alloc rfl bL dy λb4 I a w U=>?_;refine aq λI a w U=>?_;obtain⟨I,U⟩:=U.fb 0 4;refine U.dk ?_;refine aW ?_;refine .o (.c1 (EN ..)) ?_;refine mo ?_;refine .q .T2 (.cl (mF ..)) ?_;refine aW ?_;refine .q .T2 (.cl (mF ..)) ?_;refine .q .T2 (.cl (Ba ..)) ?_;refine dw ?_;refine .nil ?_;intro I a w U;refine ba ?_;refine U.cd (λah=>?_) λah=>?_
  .rw[show dF (ab l ((k:Int)-1).toNat).bG (ab l k).bG=ga (ab l ((k:Int)-1).toNat) (ab l k) from rfl,rE] at ah;replace ah:=nt ah;refine bk ?_;exact bI (by unfold bY;rw[eX (f:=(et eD ga l)) ae ah];simp)
  rw[show dF (ab l ((k:Int)-1).toNat).bG (ab l k).bG=ga (ab l ((k:Int)-1).toNat) (ab l k) from rfl,rE] at ah;replace ah:=nf ah;refine aq λI a w U=>?_;have U:=U.drop 0;exact U.ag (k+1) (⟨by omega,fO aU ah⟩)
 refine zt ?_;refine aV λI a w U=>?_;refine U.rt ?_;exact bI (by unfold bY;rw[eO aU om,Bool.and_true];simp;try omega)
def FW (l:List an):
 Fn prog 140 [bf l] (AV.bool (fD l)):=by
 refine Fn.go 40 func140 ntmps140 (λW I a U=>?_);have hle:=U.eh (t:=0) rfl;refine aV λI a w U=>?_;refine St.lo (σ:=Nat) (run 3 2 (run 30 7 [])) ⟨λk=>[(7,AV.int k)],λk=>[],λk=>k<=l.length/\∀i,i<k->(et jP dF l) i=true⟩ (λk=>l.length-k) 0 U ?aH ?bx;case aH=>exact⟨by simp,λi hi=>by omega⟩
 rintro k I a w al U;obtain⟨hk,aU⟩:=al;refine ao λI a w U=>?_;refine cz (λae=>?_) λae=>?_
 .refine bc λI a w U=>?_;refine U.alloc rfl cx ez λb4 I a w U=>?_;refine aq λI a w U=>?_;obtain⟨I,U⟩:=U.fb 0 4;refine U.dk ?_;refine cg ?_;refine .o (.c1 (x3 ..)) ?_;refine dq ?_;refine .q .F (.cl (vJ ..)) ?_;refine Af ?_;refine .q .T2 (.cl (Ba ..)) ?_;refine dw ?_;refine .nil ?_;intro I a w U;refine ba ?_;refine U.cd (λah=>?_) λah=>?_
  .rw[Eg] at ah;replace ah:=nt ah;refine bk ?_;exact bI (by unfold fD;rw[eX (f:=(et jP dF l)) ae ah];simp)
  rw[Eg] at ah;replace ah:=nf ah;refine aq λI a w U=>?_;have U:=U.drop 0;exact U.ag (k+1) (⟨by omega,fO aU ah⟩)
 refine zt ?_;refine aV λI a w U=>?_;refine U.rt ?_;exact bI (by unfold fD;rw[eO aU om,Bool.and_true];simp;try omega)
def XL (v:aD) (d:an):
 Fn prog 219 [v.av,AV.ptr d.cells] (AV.bool (lL d v)):=by
 refine Fn.go 8 func219 ntmps219 (λW I a U=>?_);refine aq λI a w U=>?_;refine U.dk ?_;refine aW ?_;refine .o (.c1 (mF ..)) ?_;refine aW ?_;refine .o (lF [_,_,_] [_,_,_] vj rfl rfl .tt .tt) ?_;refine aW ?_;refine .nil ?_;intro I a w U;refine zt ?_;refine U.rt ?_;exact bI (Wv d v)
def pQ (l:List aD) (d:an):
 Fn prog 131 [bV l,d.av] (AV.int (placeOf l d)):=by
 refine Fn.go 8 func131 ntmps131 (λW I a U=>?_);refine bc λI a w U=>?_;refine U.o (mb (ai .tt aB)) λU=>?_;refine U.o (.cl (Fs l (lL d) _ (λv _=>Fn.val (XL v d)))) λU=>?_;refine bk ?_;rfl
def XM (d:an) (l:List aD):
 Fn prog 224 [d.av,AV.ptr [bV l]] (AV.bool (missing l d)):=by
 refine Fn.go 8 func224 ntmps224 (λW I a U=>?_);refine bj λI a w U=>?_;refine U.o (.cl (pQ ..)) λU=>?_;refine dh ?_;rfl
def XN (l:List aD) (ds:List an):
 Fn prog 143 [bV l,bf ds] (AV.bool (vy l ds)):=by
 refine Fn.go 9 func143 ntmps143 (λW I a U=>?_);refine zt ?_;refine U.o (uQ .tt (by first|exact fi rfl|exact dD|exact fB|exact fE)) λU=>?_;refine aF λI a w U=>?_;refine U.o (mb (ai .tt aB)) λU=>?_;refine U.o (.cl (Md ds (missing l) _ (λd _=>Fn.val (XM d l)))) λU=>?_;refine dh ?_;rfl
def gE (w:aJ):Bool:=ow w&&cT w.aC.length (pK w)&&!hasB tJ w.au&&!hasB tV w.seen&&iI w.calls w.time
def N0 {a b:cA} (ha:qN a) (hb:qN b):qN (dI a b):=by unfold dI;split<;>assumption
def FX (c:Call):List an:=if c.end_=0 then c.ctx else if c.kind=1 then fR c.ctx ⟨ab c.keys 0,c.ax⟩ else c.az.foldl pI (iZ c.ctx (eL c))
def ri:List Answer->Int->cA
 |[],_=>gM
 |a::r,key=>dI (if a.yes=true/\a.key=key then a.bF.ax else gM) (ri r key)
def yI:∀{l:List Answer},(∀a∈l,dH a=true)->∀key,qN (ri l key)
 |[],_,_=>Or.inl rfl
 |a::r,h,key=>by
  refine N0 ?_ (yI (l:=r) (λb hb=>h b (by simp[hb])) key);split
  .rename_i hy;exact Or.inr (jL (sh (h a bt) hy.1).1).2.1
  exact Or.inl rfl
def iA (s:Server) (m:aw):List aw:=
 if aQ m.aY 10 11&&decide (1<=m.call)&&fw s m.key then
  if dW m.ax then[lh s m (gf s.ar m.key)]
  else match ja s.ar ⟨m.key,m.ax⟩ with
   |some v=>[lh s m (some v)]
   |none=>[]
 else[]
def nD (s:Server) (m:aw):List aw:=if(ja s.ar ⟨m.key,m.ax⟩).isSome&&(m.aY==eS s.site) then[lj s m] else[]
def jo (q:Call):List aw:=if g0 q then((asks q).map (jn q)).flatten else[]
def N1 (x y:List an) (hx:bP x=true) (hy:bP y=true):
 Fn prog 186 [bf x,bf y] (bf (iZ x y)):=by
 refine Fn.go 21 func186 ntmps186 (λW I a U=>?_);have pJ:=dY hx;have Xk:=dY hy;refine aF λI a w U=>?_;refine U.o (cq (qQ x om) (ai .r aB)) λU=>?_;refine aV λI a w U=>?_;refine St.lo (σ:=Nat) (5::(7::(run 8 12 []))) ⟨λk=>[(12,AV.int k),(5,bf (iZ x (y.take k)))],λk=>[],λk=>k<=y.length⟩ (λk=>y.length-k) 0 U ?aH ?bx;case aH=>exact Nat.zero_le _
 rintro k I a w al U;have hk:k<=y.length:=al;refine ao λI a w U=>?_;refine cz (λae=>?_) λae=>?_
 .refine aF λI a w U=>?_;refine U.alloc rfl cx ez λb7 I a w U=>?_;refine ao λI a w U=>?_;obtain⟨I,U⟩:=U.fb 0 7;refine aF λI a w U=>?_;refine U.o (.cl (Fa _ _ (MW hx hy k))) λU=>?_;refine aM λI a w U=>?_;have U:=U.drop 0;refine U.again (k+1) ?ik ?il ef ?im (by repeat(first|exact Env.le_rfl|refine Env.iB rfl ?_));case ik=>omega
  case il=>exact ae
  case im=>exact(Env.dM rfl ef (Env.dM rfl (by exact congrArg bf (by rw[MV ae])) Env.le_nil))
 refine zt ?_;refine dh ?_;exact congrArg bf (by rw[List.take_of_length_le om])
def XO {q:Call} {t:Int} (h:eY q t=true) (hk:q.kind=1) (he:¬q.end_=0):gU ⟨ab q.keys 0,q.ax⟩=true:=by
 have hp:=Bc h;have gK:jK q.keys=true:=by have:=hp.2.2.1;unfold ie at this;rw[Bool.and_eq_true] at this;exact this.1
 have h1:=v5 gK (bB (tF hp.2.2.1 hk));simp only[eY,ko,Bool.and_eq_true] at h;have bX:jO q.ax=true:=h.1.1.1.2;have BJ:=h.2;unfold mz at BJ;rw[if_neg he] at BJ;simp[hk] at BJ;simp only[jO,BJ.2,Bool.false_or] at bX;simp[gU,h1,bX]
def FY (l:List aD) (v:aD) (h:l.length<=1048575) (hd:∀u∈l,u.aS.length<=1048576) (hv:v.aS.length<=1048576):
 Fn prog 133 [bV l,v.av] (bV (ej l v)):=by
 refine Fn.go 29 func133 ntmps133 (λW I a U=>?_);refine aM λI a w U=>?_;refine St.lo (σ:=Nat) (run 17 5 []) ⟨λk=>[(5,AV.int k)],λk=>[],λk=>k<=l.length/\∀i,i<k->ga (ab l i) v=true⟩ (λk=>l.length-k) 0 U ?aH ?bx;case aH=>exact⟨Nat.zero_le _,λi hi=>by omega⟩
 rintro k I a w al U;obtain⟨hk,aU⟩:=al;refine wp_seq<|wp_seq<|U.dk ?_;refine vi ?_;refine .q .T (.cl (mF ..)) ?_;refine aW ?_;refine .q .T (.cl (mF ..)) ?_;refine .q .T (.cl (Ba ..)) ?_;refine aW ?_;refine .nil ?_;intro I a w U;refine ba ?_;refine cz (λae=>?_) λae=>?_
 .refine aM λI a w U=>?_;exact U.ag (k+1) (⟨by omega,λi h1=>by rcases Nat.lt_succ_iff_lt_or_eq.1 h1 with h|h;exact aU i h;rw[h];exact ae.2⟩)
 refine zt ?_;refine U.da 6 ?_;simp only[TD];refine aW ?_;refine fk.km (tL l om hd) (ai .r aB) ?_;refine cg ?_;refine .o (.c1 (tK v hv)) ?_;refine .o (.li [v.cells] iy (.u .nil)) ?_;refine .nil ?_;intro I a w U;obtain⟨L9,U⟩:=U.z5 (d:=23);refine U.dX [0] (WB _ (l.map aD.cells) v.cells k (by rw[List.length_map];exact hk) gG (λr hr=>by obtain⟨u,_,rfl⟩:=List.mem_map.1 hr;rfl) rfl) (ai .tt (ai .tt (ai .tt aB))) rfl aO rfl λI a w U=>?_;refine bk ?_;exact congrArg (AV.rows 7) (by rw[<-Lw hk aU (λhl=>by rcases ae with h|h;omega;exact h),List.map_append,List.map_cons,List.map_take,List.map_drop])
def bA.Fg {s:Server} (h:bA s):bA (ig s):=bA.kV _ h
def bA.settle {s:Server} (h:bA s):bA (gW s):=h.Fg.jd
def XP {s:Server} {m:aw} (h:bA s) (hm:bQ m=true):bA (gX s m).1:=by
 unfold gX;split
 .rename_i hc;simp only[Bool.and_eq_true,decide_eq_true_eq] at hc;split
  .exact h
  split
  .rename_i hk;simp only[Bool.and_eq_true,decide_eq_true_eq] at hk;obtain⟨a1,a2,a3⟩:=EM h hm hk.1.1;exact(h.put hk.1.2 (by rw[a1]) (by show eB s m.key≠0;rw[(AN hc.2).2];omega) hk.2).settle
  exact h
 exact h
def XQ {s:Server} {m:aw} (h:bA s):bA (gY s m).1:=by
 unfold gY;split
 .rename_i hr;obtain⟨_,_,_,ho,hf⟩:=AO hr;dsimp only;split
  .rename_i hn;split
   .rename_i hc;exact(h.wait hc hn.1 hf (by rw[(AN ho).2];omega)).settle
   exact h
  exact h.settle
 exact h
def XR {s:Server} {m:aw} (h:bA s):bA (ny s m):=by
 unfold ny;split
 .exact⟨h.site,h.aN,h.ar,h.waits,Bg h.aE (xV _ _),h.bn,h.up,h.cH,h.here,h.ng,h.nh,h.apart,λd hd=>h.ni d (EH hd)⟩
 exact h
def XS {s:Server} {m:aw} (h:bA s) (hu:s.up=true):bA (nk s m):=by
 unfold nk;split
 .rename_i hc;simp only[Bool.and_eq_true,decide_eq_true_eq] at hc;obtain⟨v,hv,hd⟩:=Vz.1 hc.1.2;exact(h.WJ (EK (jL (gP h.waits v hv)).2.2 _ hd) hc.2 hu).settle
 exact h
def XT {s:Server} {m:aw} (h:bA s) (hm:bQ m=true):bA (rU s m):=by
 have U:=(nj hm).2.2.2.2.2.2.2.2;refine(h.eb m.slot).LD U.1.1 ?_ (λv hv e=>absurd e (Ms.1 v hv)) (λv hv e=>absurd e (Ms.2 v hv)) om;rw[tM];exact⟨U.2.1.1,U.2.1.2,by simp,by simp,λe=>absurd rfl e⟩
def XU {s:Server} {m:aw} (h:bA s) (hm:bQ m=true):bA (nz s m):=by
 unfold nz;split
 .exact(XT h hm).settle
 exact h
def XV {s:Server} {m:aw} (h:bA s) (hm:bQ m=true):∀w∈(gX s m).2,bQ w=true:=by
 unfold gX;split
 .split
  .rename_i v hv;intro w hw;obtain rfl:w=_:=by simpa using hw
   exact Mv h hm (jL (gP h.ar v (VA hv).1)).2.1
  split
  .rename_i hk;simp only[Bool.and_eq_true,decide_eq_true_eq] at hk;intro w hw;obtain rfl:w=_:=by simpa using hw
   exact Mv h hm (EM h hm hk.1.1).2.1
  intro w hw;simp at hw
 intro w hw;simp at hw
def N2 {s:Server} {m:aw} (h:bA s) (hm:bQ m=true) {o:Option aD} (ho:∀v,o=some v->eD v=true):bQ (lh s m o)=true:=by
 have p:=nj hm;exact qS ⟨by simp[lh],by simp[lh]⟩ (nq h.site) p.2.1 p.2.2.2.1 p.2.2.2.2.1 p.2.2.2.2.2.1 ⟨by simp[lh,bW],by simp[lh,bW]⟩ pL ⟨by simp[lh,bW],by simp[lh,bW]⟩ ⟨by simp[lh,bW],by simp[lh,bW]⟩ (Mu ho) nr tN
def XW {s:Server} {m:aw} (h:bA s) (hm:bQ m=true):∀w∈iA s m,bQ w=true:=by
 unfold iA;split
 .split
  .intro w hw;obtain rfl:w=_:=by simpa using hw
   exact N2 h hm λv hv=>gP h.ar v (Eu hv).1
  split
  .rename_i v hv;intro w hw;obtain rfl:w=_:=by simpa using hw
   exact N2 h hm λu hu=>by cases hu;exact gP h.ar v (Nd hv).1
  intro w hw;simp at hw
 intro w hw;simp at hw
def XX {s:Server} {m:aw} (h:bA s) (hm:bQ m=true):∀w∈nD s m,bQ w=true:=by
 have p:=nj hm;unfold nD;split
 .intro w hw;obtain rfl:w=_:=by simpa using hw
  exact qS ⟨by simp[lj],by simp[lj]⟩ (nq h.site) p.2.1 ⟨by simp[lj,bW],by simp[lj,bW]⟩ p.2.2.2.2.1 p.2.2.2.2.2.1 ⟨by simp[lj,bW],by simp[lj,bW]⟩ pL ⟨by simp[lj,bW],by simp[lj,bW]⟩ ⟨by simp[lj,bW],by simp[lj,bW]⟩ nr nr tN
 intro w hw;simp at hw
def N3 {s:Server} {m:aw} (h:bA s) (hm:bQ m=true):bQ (mG s m)=true:=by
 have p:=nj hm;exact qS ⟨by simp[mG],by simp[mG]⟩ (nq h.site) p.2.1 ⟨by simp[mG,bW],by simp[mG,bW]⟩ Fh yq ⟨by simp[mG,bW],by simp[mG,bW]⟩ pL p.2.2.2.2.2.2.2.2.1 p.2.2.2.2.2.2.2.2.2.1 nr nr tN
def XY {q:Call} {t:Int} (h:dQ q t):∀m∈asks q,(m.kind=1\/m.kind=3)/\cY m.key=true/\jO m.ax=true/\(0<=m.val/\m.val<=9999)/\bP m.aS=true/\m.slot=0/\m.bU=0/\m.ar=[]/\m.waits=[]/\m.aE=[]:=by
 have hk:jK q.keys=true:=by have:=h.keys;simp only[ie,Bool.and_eq_true] at this;exact this.1
 unfold asks;split
 .intro m hm;obtain rfl:m=_:=by simpa using hm
  have h1:q.keys.length=1:=by
   have:=h.keys;rename_i e;simp[ie,e] at this;omega
  exact⟨.inl rfl,v5 hk (bB om),yq,h.val,h.ctx,rfl,rfl,rfl,rfl,rfl⟩
 intro m hm;rcases List.mem_append.1 hm with hm|hm
 .obtain⟨k,XZ,rfl⟩:=List.mem_map.1 hm;exact⟨.inr rfl,v5 hk (qK XZ),yq,⟨by simp[bW],by simp[bW]⟩,pL,rfl,rfl,rfl,rfl,rfl⟩
 obtain⟨d,hd,rfl⟩:=List.mem_map.1 hm;have:=nV h.aL hd;simp only[gU,Bool.and_eq_true] at this;exact⟨.inr rfl,this.1,yp this.2,⟨by simp[bW],by simp[bW]⟩,pL,rfl,rfl,rfl,rfl,rfl⟩
def N4 {q:Call} {t:Int} (h:dQ q t):∀m∈jo q,bQ m=true:=by
 unfold jo;split
 .intro m hm;obtain⟨ws,h1,h2⟩:=List.mem_flatten.1 hm;obtain⟨x,hx,rfl⟩:=List.mem_map.1 h1;obtain⟨a1,a2,a3,a4,a5,a6,a7,a8,a9,tq⟩:=XY h x hx;have hc:=r6.1 h.aA;have key:∀n:Int,cQ n=true->bQ {x with aY:=10+q.aA,to:=n,call:=q.num}=true:=λn hn=>
   qS (by show 1<=x.kind/\x.kind<=10;omega) (VB h.aA) (nq hn) ⟨by have:=h.num;show 0<=q.num;omega,h.num.2⟩ a2 a3 a4 a5 (by show 0<=x.slot/\x.slot<=2;omega) (by show 0<=x.bU/\x.bU<=9999;omega)
    (by show bY x.ar=true;rw[a8];rfl) (by show bY x.waits=true;rw[a9];rfl) (by show fD x.aE=true;rw[tq];rfl)
  unfold jn at h2;rcases List.mem_cons.1 h2 with rfl|h2
  .exact key _ (mI.2 om)
  obtain rfl:m=_:=by simpa using h2
  exact key _ (mI.2 om)
 intro m hm;simp at hm
def X0 {q:Call} {t:Int} (h:dQ q t) {key:Int} (hk:gz q.keys key=true):0<=key/\key<=5:=by
 have hu:jK q.keys=true:=by have:=h.keys;simp only[ie,Bool.and_eq_true] at this;exact this.1
 exact MZ.1 (v5 hu (yl.1 hk))
def FZ {q:Call} {t:Int} (h:dQ q t) {key:Int} (hk:gz q.keys key=true) (hn:cE q key<0):q.aL=[]/\q.az.length<q.keys.length:=by
 have hu:jK q.keys=true:=by have:=h.keys;simp only[ie,Bool.and_eq_true] at this;exact this.1
 have cj:q.az.length<q.keys.length:=by
  apply Nat.lt_of_not_le;intro hle;have bH:∀a∈q.az,a.key≠key:=λa ha e=>by
   have:=Bi (q:=q) (key:=key).2 ⟨a,ha,e⟩;omega
  have U:((df q.az {(default:Answer) with key:=key}).map Answer.key).Pairwise (·<·):=by
   rw[List.pairwise_map];refine(ES h.sorted λx hx=>bH x hx).imp λhl=>?_;unfold fS at hl;rwa[decide_eq_true_eq] at hl
  have:=Bn (M3 hu) U λa ha=>by
   rcases tv.1 ha with rfl|ha
   .exact yl.1 hk
   exact yl.1 (h.has a ha)
  rw[tw] at this;omega
 exact⟨h.full.resolve_right om,cj⟩
def mL {w:aJ}:gE w=true↔cr w/\w.time<=99999:=by
 unfold gE ow;simp only[Bool.and_eq_true];rw[iR];have e1:(!hasB tJ w.au)=true↔∀m∈w.au,bQ m=true:=by
  rw[Bool.not_eq_true',EF];unfold tJ;simp
 have e2:(!hasB tV w.seen)=true↔∀l∈w.seen,bP l=true:=by
  rw[Bool.not_eq_true',EF];unfold tV;simp
 have e3:(!(!aQ w.time 0 99999||((w.aC.length:Int) !=4)||decide (60<(w.au.length:Int))||((w.seen.length:Int) !=2)))=true↔(0<=w.time/\w.time<=99999)/\w.aC.length=4/\w.au.length<=60/\w.seen.length=2:=by
  simp only[Bool.not_eq_true',Bool.or_eq_false_iff,Bool.not_eq_false',aQ,Bool.and_eq_true,decide_eq_true_eq,decide_eq_false_iff_not,bne_eq_false_iff_eq];omega
 rw[e1,e2,e3];have e4:∀i,pK w i=true↔(ab w.aC i).site=(i:Int)/\bA (ab w.aC i):=λi=>by
  unfold pK;rw[Bool.and_eq_true,beq_iff_eq,iL]
 constructor
 .rintro⟨⟨⟨⟨⟨⟨a1,a2⟩,a3,a4,a5⟩,a6⟩,a7⟩,a8⟩,a9⟩;exact⟨⟨a1,a3,λi hi=>(e4 i).1 (a6 i om),a4,a7,a5,a8,a9⟩,a2⟩
 rintro⟨h,ht⟩;exact⟨⟨⟨⟨⟨⟨h.time,ht⟩,h.aC,h.au,h.seen⟩,λi hi=>(e4 i).2 (h.site i (by rw[h.aC] at hi;exact hi))⟩,h.words⟩,h.od⟩,h.calls⟩
def X1 {l:List Call} {t:Int} (h:iI l t=true) {i:Nat} (hi:i<l.length) (hw:g0 (ab l i)=true) {x:Call} (hx:dQ x t) (h1:x.aA=(ab l i).aA) (h2:x.num=(ab l i).num) (h3:x.bq=(ab l i).bq):iI (l.set i x) t=true:=by
 obtain⟨he,ho⟩:=wa hw;obtain⟨a,b⟩:=tu.1 h;have hb:∀j,(ab (l.set i x) j).bq=(ab l j).bq:=λj=>by rw[vZ hi];split;subst_vars;exact h3;rfl
 have aR:∀j,(ab (l.set i x) j).aA=(ab l j).aA:=λj=>by rw[vZ hi];split;subst_vars;exact h1;rfl
 have X2:∀j,(ab (l.set i x) j).num=(ab l j).num:=λj=>by rw[vZ hi];split;subst_vars;exact h2;rfl
 refine tu.2 ⟨by rw[List.length_set];exact a,λj hj=>?_⟩;rw[List.length_set] at hj;obtain⟨b1,b2,b3,b4⟩:=b j hj;refine⟨?_,by rw[hb,hb];exact b2,by rw[X2,aR,Wf hi h1];exact b3,λk hk=>?_⟩
 .rw[vZ hi];split
  .exact hx
  exact b1
 have hc:=b4 k hk;unfold kq at hc⊢;rw[aR,aR,hb];by_cases e:k=i
 .subst e;rw[he,ho] at hc;have:((ab l k).aA==(ab l j).aA)=false:=by simpa using hc
  rw[this];rfl
 rw[vZ hi,if_neg e];exact hc
def uc {l:List Call} {aA:Int} (h:0<=cw l aA):(cw l aA).toNat<l.length/\(ab l (cw l aA).toNat).aA=aA/\g0 (ab l (cw l aA).toNat)=true:=by
 unfold cw di at*;split at h
 .rename_i k hk;obtain⟨h1,h2,_⟩:=List.findIdx?_eq_some_iff_getElem.1 hk;have e:l[k]=ab l k:=by simp[ab,h1]
  rw[e] at h2;simp only[rZ,Bool.and_eq_true,beq_iff_eq] at h2;refine⟨by simpa using h1,by simpa using h2.1.1,?_⟩;unfold g0;simp[h2.1.2,h2.2]
 omega
def cr.N5 {w:aJ} (h:cr w) {i:Nat} (hi:i<w.calls.length) (hw:g0 (ab w.calls i)=true) {x:Call} (hx:dQ x w.time) (h1:x.aA=(ab w.calls i).aA) (h2:x.num=(ab w.calls i).num) (h3:x.bq=(ab w.calls i).bq):cr {w with calls:=w.calls.set i x}:=
 ⟨h.time,h.aC,h.site,h.au,h.words,h.seen,h.od,X1 h.calls hi hw hx h1 h2 h3⟩
def X3:gE gC=true:=by decide
def N6 (s:Server) (d:an):
 Fn prog 292 [s.av,d.av] (AV.bool (mC s d)):=by
 refine Fn.go 16 func292 ntmps292 (λW I a U=>?_);refine dp λI a w U=>?_;refine U.o (.cl (pQ ..)) λU=>?_;refine bK λI a w U=>?_;refine U.q .F (.cl (yh ..)) λU=>?_;refine dh ?_;rfl
def X4 (n:Int) (l:List cA) (hn:cQ n=true) (hl:∀s∈l,c7 s=true):
 Fn prog 358 [AV.int n,AV.rows 2 (l.map cA.cells)] (AV.c6 [(oa n l).av,AV.bool (iW l)]):=by
 refine Fn.go 36 func358 ntmps358 (λW I a U=>?_);have hle:=U.eh (t:=1) rfl;refine sr<|U.alloc rfl iH gx λb4 I a w U=>?_;refine cn λI a w U=>?_;refine St.lo (σ:=Nat) (run 2 5 (8::(run 13 11 []))) ⟨λk=>[(11,AV.int k),(6,AV.int (mB (l.take k)))],λk=>[Own.box b4 42 [AV.val (.int .i64 0),AV.val (.int .i64 0)]],λk=>k<=l.length⟩ (λk=>l.length-k) 0 U ?aH ?bx;case aH=>exact Nat.zero_le _
 rintro k I a w al U;have hk:k<=l.length:=al;refine ao λI a w U=>?_;refine cz (λae=>?_) λae=>?_
 .refine aF λI a w U=>?_;refine U.alloc rfl iH gx λb8 I a w U=>?_;refine ao λI a w U=>?_;obtain⟨I,U⟩:=U.fb 1 8;refine U.o .la λU=>?_;refine U.o (.c1 (vJ ..)) λU=>?_;refine ao λI a w U=>?_;refine U.cd (λah=>?_) λah=>?_
  .exfalso;simp only[B] at ah;rw[hl _ (bB ae)] at ah;cases ah;skip
  refine bc λI a w U=>?_;refine U.o (TK .tt .tt) λU=>?_;refine aM λI a w U=>?_;have U:=U.drop 1;refine U.again (k+1) ?ik ?il ef ?im (by repeat(first|exact Env.le_rfl|refine Env.iB rfl ?_));case ik=>omega
  case il=>exact ae
  case im=>exact(Env.dM rfl ef (Env.dM rfl (by exact congrArg AV.int (yu ae).symm) Env.le_nil))
 refine zt ?_;refine U.m λU=>U.o (.c1 (rV ..)) λU=>?_;refine cn λI a w U=>?_;refine cz (λaj=>?_) λaj=>?_
 .refine zt ?_;refine U.o (.bd gx aT.nil) λU=>?_;refine aq λI a w U=>?_;rw[List.take_of_length_le om] at aj;refine U.ret rfl (.cons (.sx 0) (.cons (.t rfl) aX.nil)) ?_;have e:iW l=false:=by rcases aj with h|h;(rw[hn] at h;cases h);unfold iW;simp;omega
  exact(by unfold oa;rw[e];rfl)
 refine bw λI a w U=>?_;refine U.o (jW .tt .c (λ_=>by have:=AF hl k;omega)) λU=>?_;refine U.m λU=>?_;refine U.o (.bd gx (.k (.k aT.nil))) λU=>?_;refine aq λI a w U=>?_;rw[List.take_of_length_le om] at aj;refine U.ret rfl (.cons (.sx 0) (.cons (.t rfl) aX.nil)) ?_;have e:iW l=true:=by have:=AF hl l.length;rw[List.take_length] at this;unfold iW;simp;omega
 exact(by unfold oa;rw[e,List.take_of_length_le om];rfl)
def N7 (l:List aD) (v:aD) (hc:bY l=true):
 Fn prog 359 [bV l,v.av] (AV.c6 [bV (if fW l v then ej l v else l),AV.bool (fW l v)]):=by
 refine Fn.go 29 func359 ntmps359 (λW I a U=>?_);have hle:=U.eh (t:=0) rfl;have vD:=fV hc;have gA:=qF hc;refine bj λI a w U=>?_;refine U.o (.cl (yH ..)) λU=>?_;refine ao λI a w U=>?_;refine U.cd (λae=>?_) λae=>?_
 .exfalso;rw[hc] at ae;cases ae;skip
 refine bw λI a w U=>?_;refine U.o (.c1 (EN ..)) λU=>?_;refine bj λI a w U=>?_;refine U.q .F (.cl (mF ..)) λU=>?_;refine U.q .F (.cl (pQ ..)) λU=>?_;refine ib λI a w U=>?_;refine U.cd (λah=>?_) λah=>?_
 .rw[Nh,Ni v hc] at ah;replace ah:=nt ah;refine bw λI a w U=>?_;refine U.o (cq (gO.fn (tL l om (λu hu=>by have:=gA u hu;omega))) (ai .r aB)) λU=>?_;refine dh ?_;exact(by rw[ah];rfl)
 rw[Nh,Ni v hc] at ah;replace ah:=nf ah;refine aF λI a w U=>?_;refine U.o (cq (FY l v om (λu hu=>by have:=gA u hu;omega) (by have:=dY (AI (qJ ah).1);omega)) (ai .r (ai (.t rfl) aB))) λU=>?_;refine dh ?_;exact(by rw[ah];rfl)
def X5 (s:Server) (al:gL s=true):
 Fn prog 277 [s.av] ((og s).av):=by
 refine Fn.go 14 func277 ntmps277 (λW I a U=>?_);have hp:=xQ al;refine bw λI a w U=>?_;refine U.alloc rfl ck c9 λb2 I a w U=>?_;refine bw λI a w U=>?_;refine U.o (.c1 (rR ..)) λU=>?_;refine ao λI a w U=>?_;refine U.cd (λae=>?_) λae=>?_
 .exfalso;rw[al] at ae;cases ae;skip
 refine bw λI a w U=>?_;refine U.o (cq (v8 s (by have:=sd hp.2.1;have:=sd hp.2.2.1;exact(EC al).small (by have:=gZ hp.2.2.2.1;omega))) (ai (.t rfl) aB)) λU=>?_;refine U.alloc rfl ck c9 λb3 I a w U=>?_;refine aM λI a w U=>?_;refine U.l0 λkr I a w U=>?_;obtain⟨I,U⟩:=U.fr 2 11;refine aV λI a w U=>?_;refine U.ret rfl (.cons (.sx 0) aX.nil) ?_;rfl
def X6 (s:Server) (m:aw) (al:gL s=true):
 Fn prog 310 [s.av,m.av] (cU (iA s m)):=by
 refine Fn.go 68 func310 ntmps310 (λW I a U=>?_);have hp:=xQ al;refine bK λI a w U=>?_;refine U.o (.c1 (yk ..)) λU=>?_;refine rI λI a w U=>?_;refine U.q .F (.cl (Ez _ _ al)) λU=>?_;refine aq λI a w U=>?_;refine U.cd (λae=>?_) λae=>?_
 .rw[Bj s m] at ae;replace ae:=nt ae;refine zt ?_;refine U.l0 λb24 I a w U=>?_;refine ao λI a w U=>?_;obtain⟨I,U⟩:=U.fr 0 4;refine U.rt ?_;exact(by unfold iA;rw[ae];rfl)
 rw[Bj s m] at ae;replace ae:=nf ae;refine bj λI a w U=>?_;refine U.o (.cl (Mr _ _ hp.2.1)) λU=>?_;refine bc λI a w U=>?_;refine U.alloc rfl bL dy λb5 I a w U=>?_;refine bj λI a w U=>?_;refine U.o (.bd gx aT.nil) λU=>?_;refine U.o (sR [_,_] [_,_] mu rfl rfl .tt .tt) λU=>?_;refine zt ?_;refine U.cd (λah=>?_) λah=>?_
 .rw[Br m.ax] at ah;replace ah:=nt ah;refine dp λI a w U=>?_;refine U.o (.cl (pC ..)) λU=>?_;refine ib λI a w U=>?_;refine U.cd (λaj=>?_) λaj=>?_
  .refine zt ?_;refine U.l0 λb49 I a w U=>?_;refine ao λI a w U=>?_;obtain⟨I,U⟩:=U.fr 1 4;refine U.rt ?_;exact(by unfold iA;rw[ae,if_pos rfl,ah,if_neg bt];rw[yx hp.2.1] at aj;rw[xZ aj];rfl)
  refine z9 λI a w U=>?_;refine U.o (.bd dr (.k (.k (.k (.k (.k (.t (.k aT.nil)))))))) λU=>?_;refine U.alloc rfl cV dr λb7 I a w U=>?_;refine aq λI a w U=>?_;refine U.cd (λaG=>?_) λaG=>?_
  .refine bw λI a w U=>?_;refine U.o (.li [_] iy (.u .nil)) λU=>?_;refine bc λI a w U=>?_;refine U.o (.li [_] fo (.u .nil)) λU=>?_;refine bk ?_;exact(by unfold iA;rw[ae,if_pos rfl,ah,if_neg bt];rw[yx hp.2.1] at aG⊢;obtain⟨v,hv⟩:=Option.isSome_iff_exists.1 aG;rw[hv];rfl)
  refine bw λI a w U=>?_;refine U.o (.li [_] fo (.u .nil)) λU=>?_;refine bk ?_;exact(by simp only[B] at aj;rw[aj] at aG;cases aG)
 rw[Br m.ax] at ah;replace ah:=nf ah;refine z9 λI a w U=>?_;refine U.o (.bd dr (.k (.k (.k (.k (.k (.t (.k aT.nil)))))))) λU=>?_;refine U.alloc rfl cV dr λb7 I a w U=>?_;refine aq λI a w U=>?_;refine U.cd (λaK=>?_) λaK=>?_
 .refine bw λI a w U=>?_;refine U.o (.li [_] iy (.u .nil)) λU=>?_;refine bc λI a w U=>?_;refine U.o (.li [_] fo (.u .nil)) λU=>?_;refine bk ?_;exact(by unfold iA;rw[ae,if_pos rfl,ah,if_pos rfl];obtain⟨v,hv⟩:=Option.isSome_iff_exists.1 aK;unfold lh;rw[hv];rfl)
 refine bw λI a w U=>?_;refine U.o (.li [_] fo (.u .nil)) λU=>?_;refine bk ?_;exact(by unfold iA;rw[ae,if_pos rfl,ah,if_pos rfl];unfold lh;rw[show gf s.ar m.key=none from xZ (by rw[aK];rfl)];rfl)
def F0 (v:Value) (l:List an) (p:an->Bool) (fv:AV) (O:Own) (hl:l.length<=1048576) (hf:∀x,x∈l->xH prog fv [x.av] [O] (AV.bool (p x))):
 bJ prog 345 [AV.val v,fv] [Own.row v 125 3 (l.map an.cells),O] (λ_:Value=>True) (λu=>[Own.row u 125 3 ((l.filter λd=>!p d).map an.cells),O]) AV.val:=by
 refine bJ.intro 42 func345 rfl ntmps345 rfl aP (λW I a U=>?_);refine bc λI a w U=>?_;refine U.dX [0,1] (U8 v l p fv O hl hf) (ai .tt (ai .tt aB)) rfl aO rfl λI a w U=>?_;refine aM λI a w U=>?_;refine U.cd (λae=>?_) λae=>?_
 .refine aq λI a w U=>?_;simp only[B] at ae;refine U.bD v [0,1] rfl (.cons (.t rfl) .nil) trivial (by rw[VQ om];rfl) rfl
 refine wp_skip<|ba<|wp_seq<|wp_seq ?_;simp only[B] at ae;have sO:=Vn p l;have h0:0<=di p l:=by omega
 obtain⟨h1,h2,h3⟩:=A3 h0;obtain⟨b,cap,rfl⟩:=U.gv 0 rfl gG;rw[show l.map an.cells=(gQ p l ((di p l).toNat+1)).map an.cells from by rw[L0 h0]] at U;rw[show((gQ p l ((di p l).toNat+1)).map an.cells).length=(l.map an.cells).length from by rw[L0 h0]] at U;refine aM λI a w U=>?_;refine St.IC (σ:=Nat) (run 3 5 (run 20 16 [])) ⟨λj=>[(6,AV.int j),(5,AV.int (kp p l j).length)],λj=>[Own.row (.slice (some ⟨b,0,none⟩) (l.map an.cells).length cap) 125 3 ((gQ p l (j)).map an.cells),O],λj=>j<=l.length/\(kp p l j).length<j⟩ (λj=>l.length-j) ((di p l).toNat+1) U rfl ?aH ?X7 ?bx;case aH=>exact⟨by omega,by rw[E3 h0,List.length_take];omega⟩
 case X7=>exact(Env.dM rfl (by exact congrArg AV.int om) (Env.dM rfl (by exact congrArg AV.int (by rw[E3 h0,List.length_take];omega)) Env.le_nil))
 rintro j I a w al U;obtain⟨hj,hkj⟩:=al;dsimp only at U;have jX:=VL (p:=p) hj;have hle:(l.map an.cells).length=((gQ p l (j)).map an.cells).length:=by rw[List.length_map,List.length_map,jX]
 refine aF λI a w U=>?_;refine U.o (jY 0 c4 .tt rfl) λU=>?_;refine ao λI a w U=>?_;refine U.cd (λah=>?_) λah=>?_
 .simp only[B,List.length_map] at ah;have ah:j<l.length:=by omega
  refine aF λI a w U=>?_;rw[hle] at U;refine U.o (fj c4 cx .tt .tt (λ_=>by simp only[List.length_map];omega)) λU=>?_;refine U.o (pg 0 cx .tt rfl (λ_=>by show((gQ p l j).map an.cells)[j]?=some (ab l j).cells;rw[<-VN (p:=p) ah];exact dL om) rfl) λU=>?_;refine U.alloc rfl cx ez λb7 I a w U=>?_;refine ao λI a w U=>?_;obtain⟨I,U⟩:=U.fb 2 7;refine aF λI a w U=>?_;refine U.Kz [1] (hf _ (bB ah)) .tt (ai .tt aB) rfl aO rfl λI a w U=>?_;refine ao λI a w U=>?_;refine cz (λaj=>?_) λaj=>?_
  .refine wp_seq ?_;have hw:(kp p l j).length<(gQ p l j).length:=by omega
   refine bc λI a w U=>?_;refine U.o (fj c4 cx .tt .tt (λ_=>by simp only[List.length_map];omega)) λU=>?_;refine U.jf 0 cx .tt .tt rfl (by exact dL hw) rfl rfl λa w U=>?_;refine iU λI a w U=>?_;have U:=U.drop 2;rw[Int.toNat_natCast (kp p l j).length] at U;rw[show((gQ p l (j)).map an.cells).set (kp p l j).length (ab l j).cells=(gQ p l (j+1)).map an.cells from by rw[<-VO ah aj,List.map_set]] at U;rw[<-hle] at U;refine U.again (j+1) ?ik ?il ef ?im (by repeat(first|exact Env.le_rfl|refine Env.iB rfl ?_));case ik=>omega
   case il=>exact⟨ah,by rw[A4 ah aj,List.length_append];simp;omega⟩
   case im=>exact(Env.dM rfl ef (Env.dM rfl (by first|exact congrArg AV.int (by rw[A4 ah aj,List.length_append];simp)|exact congrArg AV.int (by rw[yi ah aj])) Env.le_nil))
  refine aM λI a w U=>?_;have U:=U.drop 2;rw[<-hle,<-VP ah aj] at U;refine U.again (j+1) ?ox ?oz ef ?oA (by repeat(first|exact Env.le_rfl|refine Env.iB rfl ?_));case ox=>omega
  case oz=>exact⟨ah,by rw[yi ah aj];omega⟩
  case oA=>exact(Env.dM rfl ef (Env.dM rfl (by first|exact congrArg AV.int (by rw[A4 ah aj,List.length_append];simp)|exact congrArg AV.int (by rw[yi ah aj])) Env.le_nil))
 simp only[B,List.length_map] at ah;refine zt ?_;refine aF λI a w U=>?_;have bH:((gQ p l (j)).map an.cells)≠[]:=by intro e;have:=congrArg List.length e;simp only[List.length_map,List.length_nil] at this;omega
 obtain⟨b2,l7,he,l8,l9,kQ,U⟩:=U.qn 0 rfl bH;simp only[Value.slice.injEq,Option.some.injEq,Addr.mk.injEq] at he;obtain⟨⟨rfl,_⟩,_,rfl⟩:=he;refine U.o (D5 (lo:=(kp p l j).length) c4 cx .tt .tt rfl gG (by rw[hle];exact l8)) λU=>?_;have hF:((gQ p l (j)).map an.cells).flatten.length=((gQ p l (j)).map an.cells).length*3:=fM (λr hr=>by obtain⟨d,_,rfl⟩:=List.mem_map.1 hr;rfl);refine U.D7 0 c4 cx rfl eJ .tt gG rfl (by simp only[List.length_append,List.length_map,List.length_replicate,hF,jX];omega) λU=>?_;have U:=U.qp (l:=(kp p l j).map an.cells) (cap:=cap) 0 rfl (by rw[jR]<;>simp only[List.length_append,List.length_map,List.length_replicate,hF,jX]<;>simp only[List.length_map,jX] at l8<;>omega) (λr hr=>by obtain⟨d,_,rfl⟩:=List.mem_map.1 hr;rfl) (by rw[List.length_map];simp only[List.length_map,jX] at l8;omega) kQ l9 (VR jX);rw[show((kp p l j).map an.cells).length=(kp p l j).length from List.length_map _] at U;refine aF λI a w U=>?_;refine U.o (qt (hi:=(kp p l j).length) c4 cx .tt .tt rfl (by simp only[List.length_map,jX] at l8;omega) kQ) λU=>?_;refine ao λI a w U=>?_;obtain rfl:j=l.length:=by omega
 rw[VM] at U;refine U.bD _ [0,1] rfl (.cons (.t rfl) .nil) trivial (by rw[List.length_map];rfl) rfl
def N8 (s:Server) (m:aw):(decide (80<((eb s m.slot).ar.length:Int)+m.ar.length)||decide (80<((eb s m.slot).waits.length:Int)+m.waits.length)||decide (80<((eb s m.slot).aE.length:Int)+m.aE.length))=!qO s m:=by
 have e:∀a b:Nat,decide (80<(a:Int)+b)=!decide (a+b<=80):=λa b=>by rw[Bool.eq_iff_iff];simp;omega
 unfold qO;rw[e,e,e];simp
def N9 (l vs:List aD) (hc:bY l=true) (hv:bY vs=true):
 Fn prog 366 [bV l,bV vs] (AV.c6 [bV (jb l vs),AV.bool (decide (l.length+vs.length<=80))]):=by
 refine Fn.go 33 func366 ntmps366 (λW I a U=>?_);have hl:=fV hc;have mW:=fV hv;have gA:=qF hc;have pR:=qF hv;have sP:=(tp.1 hv).2.2;refine bc λI a w U=>?_;refine U.o (cq (gO.fn (tL l om (λu hu=>by have:=gA u hu;omega))) (ai .r aB)) λU=>?_;refine aV λI a w U=>?_;refine St.lo (σ:=Nat) (6::(8::(run 13 13 []))) ⟨λk=>[(13,AV.int k),(6,bV (jb l (vs.take k)))],λk=>[],λk=>k<=vs.length⟩ (λk=>vs.length-k) 0 U ?aH ?bx;case aH=>exact Nat.zero_le _
 rintro k I a w al U;have hk:k<=vs.length:=al;refine ao λI a w U=>?_;refine cz (λae=>?_) λae=>?_
 .refine aF λI a w U=>?_;refine U.alloc rfl bL dy λb8 I a w U=>?_;refine ao λI a w U=>?_;obtain⟨I,U⟩:=U.fb 0 8;refine aF λI a w U=>?_;refine U.o (.c1 (mF ..)) λU=>?_;refine U.o (.cl (pQ ..)) λU=>?_;refine ao λI a w U=>?_;refine cz (λah=>?_) λah=>?_
  .refine aF λI a w U=>?_;refine U.o (cq (FY (jb l (vs.take k)) (ab vs k) (by have:=Fz l vs k;omega) (λu hu=>by have:=WR gA pR k u hu;omega) (by have:=pR _ (bB ae);omega)) (ai .r (ai (.t rfl) aB))) λU=>?_;refine aM λI a w U=>?_;have U:=U.drop 0;refine U.again (k+1) ?ik ?il ef ?im (by repeat(first|exact Env.le_rfl|refine Env.iB rfl ?_));case ik=>omega
   case il=>exact ae
   case im=>exact(Env.dM rfl ef (Env.dM rfl (by first|exact congrArg bV (Nl sP ae ah)|exact congrArg bV (Nm ae om)) Env.le_nil))
  refine aq λI a w U=>?_;have U:=U.drop 0;refine U.again (k+1) ?ox ?oz ef ?oA (by repeat(first|exact Env.le_rfl|refine Env.iB rfl ?_));case ox=>omega
  case oz=>exact ae
  case oA=>exact(Env.dM rfl ef (Env.dM rfl (by first|exact congrArg bV (Nl sP ae ah)|exact congrArg bV (Nm ae om)) Env.le_nil))
 refine zt ?_;refine m4 λI a w U=>?_;refine U.rt ?_;exact(by rw[List.take_of_length_le om,Wm];rfl)
def X8 (s:Server) (d:an):
 Fn prog 363 [d.av,AV.ptr s.cells] (AV.bool (!mC s d)):=by
 refine Fn.go 8 func363 ntmps363 (λW I a U=>?_);refine bj λI a w U=>?_;refine U.o (.c2 (N6 ..)) λU=>?_;refine dh ?_;rfl
def X9 (s:Server) (v:aD) (hl:s.aN.length=3) (hk:cY v.key=true):
 Fn prog 362 [v.av,AV.ptr s.cells] (AV.bool (j5 s v)):=by
 refine Fn.go 15 func362 ntmps362 (λW I a U=>?_);refine bK λI a w U=>?_;refine U.o (.c2 (vN s v.key hl)) λU=>?_;refine bc λI a w U=>?_;refine U.q .T (mb (ai .tt aB)) λU=>?_;refine U.q .T (.cl (Md v.aS (λd=>!mC s d) _ (λd _=>Fn.val (X8 s d)))) λU=>?_;refine qx ?_;exact bI (Va hk)
def Ya (s:Server) (m:aw):(iA s m).length<=1:=by
 unfold iA;split
 .split
  .simp
  split<;>simp
 simp
def Yb {s:Server}:qY s s.aN.length=leaving s:=rfl
def rj (site k:Nat):List cI:=(List.range k).map λi=>if i%2=site%2 then⟨1,1⟩ else⟨0,0⟩
def Oa (site k:Nat):(rj site k).length=k:=by simp[rj]
def F1 (q:Call) (m:aw) (hc:eN q.aA=true) (hm:iY m):
 Fn prog 306 [q.av,m.av] (cU (jn q m)):=by
 refine Fn.go 31 func306 ntmps306 (λW I a U=>?_);have aR:=r6.1 hc;refine bw λI a w U=>?_;refine U.box rfl .tt λb3 I a w U=>?_;refine ao λI a w U=>?_;refine U.l0 λb7 I a w U=>?_;refine aq λI a w U=>?_;refine St.lo (σ:=Nat×Int×Int×Int×Value) (run 2 5 (run 22 8 [])) ⟨λ⟨j,f1,f2,f3,v⟩=>[(6,AV.int j),(5,AV.val v)],λ⟨j,f1,f2,f3,v⟩=>[Own.box b3 108 ({m with aY:=f1,to:=f2,call:=f3}:aw).cells,Own.row v 108 15 (((jn q m).take j).map aw.cells)],λ⟨j,f1,f2,f3,v⟩=>j<=2⟩ (λ⟨j,f1,f2,f3,v⟩=>2-j) (0,m.aY,m.to,m.call,.slice (some ⟨b7,0,none⟩) 0 0) U ?aH ?bx;case aH=>exact Nat.zero_le _
 rintro⟨j,f1,f2,f3,v⟩ I a w al U;have hj:j<=2:=al;dsimp only at U;refine aq λI a w U=>?_;refine cz (λae=>?_) λae=>?_
 .refine fm λI a w U=>?_;refine U.o (mS .c .tt (λ_=>by omega)) λU=>?_;refine rI λI a w U=>?_;refine U.o (.c1 (Fc {m with aY:=10+q.aA,to:=2*q.aA+(j:Int),call:=q.num} hm)) λU=>?_;refine U.o (.li [({m with aY:=10+q.aA,to:=2*q.aA+(j:Int),call:=q.num}:aw).cells] fo (.u .nil)) λU=>?_;refine U.append 1 rfl eA cV rfl .tt .r rfl (by simp[jn];omega) λtn a w U=>?_;rw[bN,Nz q m om] at U;refine aV λI a w U=>?_;exact U.ag (j+1,10+q.aA,2*q.aA+(j:Int),q.num,tn) (by show j+1<=2;omega)
 refine wp_exit<|cm<|cm<|dS<|ba<|wp_seq ?_;rw[List.take_of_length_le (by show 2<=j;omega)] at U;obtain⟨I,U⟩:=U.fr 1 5;refine dh ?_;rfl
def si.snoc {l:List aD} {I0:Im} {xs:List (qZ l I0)} {x:qZ l I0} (h:si xs) (hx:x.1.1+1+xs.length=l.length):si (xs++[x]):=λj y e=>by
 rcases Nat.lt_or_ge j xs.length with hj|hj
 .rw[List.getElem?_append_left hj] at e;exact h j y e
 rw[List.getElem?_append_right hj] at e;cases hk:j-xs.length with
 |zero=>rw[hk] at e;obtain rfl:x=y:=by simpa using e
        rw[show j=xs.length from by omega];exact hx
 |succ k=>rw[hk] at e;simp at e
def Yc (l:List aD) (n:Nat) (hn:1<=n) (I0:Im) (w0:World) (hm:dx w0 I0) (G:Nat->Prop) (hG:∀b cs,I0 b=some cs->¬G b) (p:Value) (hp:(AV.ptr [bV l]).h I0 p):
 SeqStopsK Fence.wide n prog 240 #[p] (λx:qZ l I0=>#[.int .i64 x.1.1,x.1.2]) (Kept G) (λxs=>xs.length=l.length/\si xs) si l.length w0:=λlp J Jx W hW hJ Yd hY h0=>by
 have Ye:dx W I0:=λb cs e=>by
  obtain⟨T,fr,k⟩:=hm b cs e;exact⟨T,fr,(hW.block b (hm.lt e)).trans k⟩
 obtain⟨vs,mW,BK,wv⟩:∃vs:List (List Value),vs.length=l.length/\(AV.ptr [AV.rows 7 (vs.map Fo)]).h I0 p/\∀i,i<l.length->bm I0 (ab l i).cells (vs.getD i [])/\(AV.agg (ab l i).cells).h I0 (.agg (ab vs i).toArray)/\(ab vs i).length=7:=by
  obtain⟨q,e,h1,cs,h2,h3⟩:=hp;generalize hd:(cs.toList.drop q.off).take 1=ds at h3;match ds,h3 with
  |[v],h3=>
   obtain⟨vs,e1,e4,e2,e3⟩:=T5 h3.1.1
   rw[List.map_congr_left λr hr=>MM (e4 r hr)] at e2
   refine⟨vs,by simpa using e1,⟨q,e,h1,cs,h2,by show bm _ _ (List.take 1 _);rw[hd];exact⟨⟨e2,h3.1.2⟩,trivial⟩⟩,λi hi=>?_⟩
   have:=e3 i (by simpa using hi)
   rw[QQ aD.cells l i hi,show l[i]! =ab l i from by simp[ab,hi]] at this
   have hv:i<vs.length:=by rw[e1];simpa using hi
   have he:vs.getD i []=ab vs i:=by simp[ab,hv]
   exact⟨this,⟨_,rfl,by rw[<-he];exact this⟩,e4 _ (bB hv)⟩
 refine T0 (F:=jD) 19 func240 rfl ntmps240 (args:=[.val (.func (.yield lp) #[] #[]),.val p]) rfl Ye ⟨rfl,rfl,trivial⟩ λa U=>?_;have hQ:∀a w,¬bodyPost prog f240 (λe W'=>(∃v,e=.returned v)/\((∃xs:List (qZ l I0),(xs.length=l.length/\si xs)/\J xs W')\/∃pre,si pre/\Jx pre W')) .outgrown a w:=λa w h=>by obtain⟨⟨v,e⟩,_⟩:=h;cases e
 have BL:∀{A B:World} {xs},A.grownBy B none->J xs A->J xs B:=λh k=>hJ _ _ _ none k h (λr e=>by cases e);have Yf:∀{A B:World} {xs},A.grownBy B none->Jx xs A->Jx xs B:=λh k=>Yd _ _ _ none k h (λr e=>by cases e);refine wpIn_seq (vo (by exact hQ) rfl ?_);refine U.oU 1 BK .l1 λ{I a w} U=>?_;have hle:=U.eh (t:=4) rfl;refine bc λI a w U=>?_;refine nn ?_;refine wpIn_block (wpIn_loop (λa w=>∃(k:Nat) (pre:List (qZ l I0)),St ⟨w,I0,19,jD⟩ I0 [] [(3,.int ((k:Int)-1)),(1,.val p),(0,.val (.func (.yield lp) #[] #[]))] a w/\pre.length+k=l.length/\si pre/\J pre w) (λa _=>Fm a) ?_ ?_)
 .refine⟨l.length,[],?_,by simp,λj x e=>by simp at e,BL (U.grown rfl) h0⟩;refine(U.base [(3,.int .i64 ((l.length:Int)-1)),(1,p),(0,.func (.yield lp) #[] #[])] (by rw[<-mW];rfl))
 rintro a w ⟨k,pre,U,hk,hd,Ob⟩;have Yg:=ML U;refine wpIn_seq (wpIn_seq (vo (by exact hQ) rfl ?_));refine aF λI a w U=>?_;refine nn ?_;refine wpIn_cond_split (U.env 8 _ rfl) (λae=>?_) (λae=>?_)
 .refine wpIn_skip ?_;refine ba ?_;have ae:1<=k:=by simp only[B] at ae;omega
  refine wpIn_seq (wpIn_block (wpIn_seq (wpIn_region_lit ?_)));refine Am (by exact hQ) [_,_] [_,_,_,_,_,_] rfl ?_;have jX:k<=vs.length:=by omega
  refine aF λI a w U=>?_;refine U.oU 1 BK .l1 λ{I a w} U=>?_;refine bc λI a w U=>?_;have Yh:=BL (U.grown rfl) Ob;have hx:((k:Int)-1).toNat<l.length:=by omega
  refine nn (wpListIn_plain rfl λK hK=>?_);have yo:a.eval (.tmp 12)=.int .i64 ((((k:Int)-1).toNat:Nat):Int):=by
   rw[show a.eval (.tmp 12)=.int .i64 ((k:Int)-1) from U.env 12 _ rfl];congr 1;omega
  have Yi:a.eval (.tmp 16)=.agg (ab vs ((k:Int)-1).toNat).toArray:=by
   have:(AV.agg (Fo (ab vs ((k:Int)-1).toNat))).h I (a.eval (.tmp 16)):=U.env 16 _ rfl;rw[<-MM (wv _ hx).2.2] at this;exact T4 this
  have kG:(#[.tmp 12,.tmp 16]:Array Operand).map a.eval=#[.int .i64 ((((k:Int)-1).toNat:Nat):Int),.agg (ab vs ((k:Int)-1).toNat).toArray]:=by simp[yo,Yi]
  refine TZ (λ_=>trivial) rfl (U.env 11 _ rfl) kG (hY pre ⟨(((k:Int)-1).toNat,.agg (ab vs ((k:Int)-1).toNat).toArray),hx,(wv _ hx).2.1⟩ w Yh om) λe w' he=>?_;have yD:=hd.snoc (x:=⟨(((k:Int)-1).toNat,.agg (ab vs ((k:Int)-1).toNat).toArray),hx,(wv _ hx).2.1⟩) (by show((k:Int)-1).toNat+1+_=_;omega);rcases he with⟨rfl,F3,DI⟩|⟨rfl,F3⟩
  .refine⟨_,rfl,hK _ _ ?_⟩;have U:=(U.DL [(3,.int .i64 ((k:Int)-1)),(1,p),(0,.func (.yield lp) #[] #[])] hG DI).An (d:=17) (x:=.bool true) (v:=.bool true) (show 17<19 from by decide) rfl;refine Am (by exact hQ) [] [_] rfl ?_;refine bw λI a w U=>?_;refine nn ?_;refine ba ?_;refine wpIn_cond_split (U.env 18 _ rfl) (λah=>by cases ah) (λah=>?_);refine wpIn_skip ?_;refine wS ?_;refine ba ?_;refine vo (by exact hQ) rfl ?_;refine bc λI a w U=>?_;have h3:St _ _ _ _ _ _:=U.base [(3,.int .i64 ((((k-1:Nat)):Int)-1)),(1,p),(0,.func (.yield lp) #[] #[])] (by rw[show(((k-1:Nat):Int)-1)=(k:Int)-1-1 from by omega];rfl);refine wpList_nil (ba ?_);refine⟨⟨k-1,_,h3,by simp;omega,yD,BL (U.grown rfl) F3⟩,?_⟩;rw[Yg,ML (k:=k-1) h3];omega
  refine⟨_,rfl,hK _ _ ?_⟩;have U:=(U.blank w' []).An (d:=17) (x:=.bool false) (v:=.bool false) (show 17<19 from by decide) rfl;refine Am (by exact hQ) [] [_] rfl ?_;refine bw λI a w U=>?_;refine nn ?_;refine ba ?_;refine wpIn_cond_split (U.env 18 _ rfl) (λah=>?_) (λah=>by cases ah);refine wpIn_ret ?_;refine sJ (uP (uP (sJ ?_)));exact⟨U.defers,_,results_none rfl _ _ _,⟨_,rfl⟩,.inr ⟨_,yD,Yf (U.grown rfl) F3⟩⟩
 refine wpIn_exit ?_;refine cm (cm (dS ?_));have hk0:k=0:=by
  have ae:¬(0<=(k:Int)-1):=by simpa using ae
  omega
 exact⟨U.defers,_,results_none rfl _ _ _,⟨_,rfl⟩,.inl ⟨_,⟨by omega,hd⟩,BL (U.grown rfl) Ob⟩⟩
def Oc (l:List aD) (key:Int) (hd:∀v∈l,v.aS.length<=1048576):Fn prog 82 [bV l,.int key] (.c6 [((gf l key).getD default).av,.bool (gf l key).isSome]):=by
 refine⟨nG.of func82 rfl aP,λI0 w0 vs hm ha=>(callsIn_wide (n:=3)).1 ?_⟩;refine T3 (F:=jD) 19 func82 rfl ntmps82 rfl hm ha λa U=>?_;have hQ:∀a w',¬bodyPostM Fence.wide 3 prog f82 (uN I0 w0 (.c6 [((gf l key).getD default).av,.bool (gf l key).isSome])) .outgrown a w':=λa w' h=>h;refine wpIn_seq (vo (by exact hQ) rfl ?_);refine U.o (uQ .tt (by first|exact fi rfl|exact dD|exact fB|exact fE)) λU=>?_;refine U.alloc rfl bL dy λb4 I a w U=>?_;refine U.alloc rfl xA SL λb5 I a w U=>?_;refine nn (wpIn_seq (wpIn_seq (vo (by exact hQ) rfl ?_)));refine bw λI a w U=>?_;refine U.o (.c1 (Xd l)) λ{I1 a1 w1} U=>nn ?_;refine wpIn_block ?_;obtain⟨p,Yj,hp⟩:∃p,a1.eval (.tmp 9)=.func (.func 240) #[] #[p]/\(AV.ptr [bV l]).h I1 p:=by
  obtain⟨cs,e,h⟩:=U.env 9 _ rfl;obtain⟨cs⟩:=cs;match cs,h with
  |[p],h=>exact⟨p,e,h.1⟩
 have Yk:=U;have U:=U.re;obtain⟨H1,ss⟩:∃H1,H1=[Own.box b4 54 [AV.val (.int .i64 0),AV.val (.int .i64 0),AV.val (.int .i64 0),AV.val (.int .i64 0),AV.val (.int .i64 0),AV.val (.int .i64 0),AV.rows 3 []],Own.box b5 4 [AV.bool false]]:=⟨_,rfl⟩;have ae:boxes H1:=λo ho=>by
  rw[ss] at ho;rcases List.mem_cons.1 ho with rfl|ho
  .exact⟨_,_,_,rfl⟩
  rcases List.mem_cons.1 ho with rfl|ho
  .exact⟨_,_,_,rfl⟩
  cases ho
 have Od:∀u v,boxes [Own.box b4 54 u,Own.box b5 4 v]:=λu v o ho=>by
  rcases List.mem_cons.1 ho with rfl|ho
  .exact⟨_,_,_,rfl⟩
  rcases List.mem_cons.1 ho with rfl|ho
  .exact⟨_,_,_,rfl⟩
  cases ho
 have U:St ⟨w1,I1,19,dz H1⟩ I1 H1 [(5,.val (.pointer (some ⟨b5,0,none⟩))),(4,.val (.pointer (some ⟨b4,0,none⟩))),(3,.ptr [.int key])] a1 w1:=by
  rw[ss];exact U.pick _
 have cj:∀b,dz H1 b->b<w1.heap.size/\I1 b=none:=λb h=>by
  obtain⟨o,ho,e⟩:=qu.1 h;exact⟨((U.own.all o ho).2 b e).2.2,((U.own.all o ho).2 b e).2.1⟩
 have xh:=U;have kQ:St _ I1 H1 [(5,.val (.pointer (some ⟨b5,0,none⟩))),(4,.val (.pointer (some ⟨b4,0,none⟩)))] a1 w1:=(Yk.pick _).vw (by rw[ss];rfl);have fin:∀{D:Nat} {W:World} {a2 a3:Act} {I:Im} {u:List AV} {b:Bool} {Γ:Env},w1.heap.size<=D->St ⟨w1,I1,19,dz H1⟩ I [Own.box b4 54 u,Own.box b5 4 [.bool b]] ((5,.val (.pointer (some ⟨b5,0,none⟩)))::(4,.val (.pointer (some ⟨b4,0,none⟩)))::Γ) a2 W->W.heap[D]?=some (.deferred (some []))->u.length=7->AV.c6 [.agg u,.bool b]=.c6 [((gf l key).getD default).av,.bool (gf l key).isSome]->
  a3.tmps=a2.tmps->a3.defers=[{target:=.collected D,args:=#[]}]->bodyPostM Fence.wide 3 prog f82 (uN I0 w0 (.c6 [((gf l key).getD default).av,.bool (gf l key).isSome])) .ret a3 W:=λ{D W a2 a3 I u b Γ} hD hi hK hu he h1 h2=>by
  show LeavesInM _ _ _ _ a3.tmps _ a3.defers _ _;rw[h1,h2];exact(kQ.un hi).leave (Od _ _) (Nat.le_trans kQ.step.below.size hD) hK rfl rfl (.cons (.s 0 bL rfl rfl hu) (.cons (.cc 1 xA rfl rfl) aX.nil)) he
 refine wpIn_rangeFunc_ownH (n:=3) rfl aO Yj trivial (nG.of func240 rfl aP) (Yc l 2 aO I1 w1 U.step.cX (λb=>w1.heap.size<=b\/dz H1 b) (λb cs e h=>h.elim (λh=>by have:=U.step.cX.lt e;omega) λh=>by rw[(cj b h).2] at e;cases e) p hp)
  (λh k=>h.trans k) (λW l o o' h _ _ _=>T6 (λb h=>.inl h) W l o' h) (Below.refl _ _) (λ_=>rfl)
  (λpre W=>(∀x∈pre,qE key (ab l x.1.1)=false)/\∃I,St ⟨w1,I1,19,dz H1⟩ I H1 [(5,.val (.pointer (some ⟨b5,0,none⟩))),(4,.val (.pointer (some ⟨b4,0,none⟩))),(3,.ptr [.int key])] a1 W)
  (λc (pre:List (qZ l I1)) W=>c=.ret/\∃(x:qZ l I1) (q:List (qZ l I1)),pre=q++[x]/\(∀y∈q,qE key (ab l y.1.1)=false)/\qE key (ab l x.1.1)=true/\∃I,St ⟨w1,I1,19,dz H1⟩ I [Own.box b4 54 (ab l x.1.1).cells,Own.box b5 4 [AV.bool true]] [(5,.val (.pointer (some ⟨b5,0,none⟩))),(4,.val (.pointer (some ⟨b4,0,none⟩))),(3,.ptr [.int key])] a1 W)
  (λs A B row h hg hr=>⟨h.1,h.2.imp λI k=>k.Ao ae hg hr⟩)
  (λc s A B row h hg hr=>by obtain⟨h0,x,q,e,h1,h2,I,k⟩:=h;exact⟨h0,x,q,e,h1,h2,I,k.Ao (Od _ _) hg hr⟩)
  ⟨λx h=>(by cases h),I1,U⟩
  (λx a' W=>∃I b7,St ⟨w1,I1,19,dz H1⟩ I (H1++[Own.box b7 54 (ab l x.1.1).cells]) [(7,.val (.pointer (some ⟨b7,0,none⟩))),(5,.val (.pointer (some ⟨b5,0,none⟩))),(4,.val (.pointer (some ⟨b4,0,none⟩))),(3,.ptr [.int key])] a' W)
  (λx a' s A B row h hg hr=>h.imp λI k=>k.imp λb7 k=>k.Ao (λo ho=>(List.mem_append.1 ho).elim (ae o) λho=>⟨_,_,_,List.mem_singleton.1 ho⟩) hg hr)
  ?assign ?body ?done ?stop
 case assign=>
  rintro l1 pre x W K ⟨m6,I,hi⟩ hK;have hr:=hi.re;have e:({tmps:=(((#[10,11]:Array Nat).zip #[Value.int .i64 x.1.1,x.1.2]).foldl (λt (p,v)=>t.setIfInBounds p v) a1.tmps),defers:=[]}:Act)=(a1.put (some 10) (.int .i64 x.1.1)).put (some 11) x.1.2:=by
   have:=hi.defers;cases a1;simp at this;subst this;simp[Act.put]
  have U:=(hr.An (d:=10) (x:=.int x.1.1) (v:=.int .i64 x.1.1) (show 10<19 from by decide) rfl).An (d:=11) (x:=(ab l x.1.1).av) (v:=x.1.2) (show 11<19 from by decide) ((ab l x.1.1).av.up _ _ _ hi.step.le x.2.2);rw[<-e] at U;have U:=U.vw ss;refine Ea (by exactλ_ _ h=>h) rfl ?_;refine U.alloc rfl bL dy λb7 I2 a w U=>?_;refine bw λI2 a w U=>?_;have U:St _ I2 (H1++[Own.box b7 54 (ab l x.1.1).cells]) [(7,.val (.pointer (some ⟨b7,0,none⟩))),(5,.val (.pointer (some ⟨b5,0,none⟩))),(4,.val (.pointer (some ⟨b4,0,none⟩))),(3,.ptr [.int key])] a w:=(U.pick _).vw (by rw[ss];rfl);have hu:=hi.un U;refine wpList_nil (ba ?_);exact hK _ _ ((U.keeps hi.own ae).from _) (hi.KL U) ⟨m6,_,xh.back hu hu.step.le⟩ ⟨_,_,hu⟩
 case body=>
  rintro l1 pre x a' W hl _ ⟨m6,_⟩ ⟨I,b7,hi⟩ hlen;have aj:boxes (H1++[Own.box b7 54 (ab l x.1.1).cells]):=λo ho=>(List.mem_append.1 ho).elim (ae o) λho=>⟨_,_,_,List.mem_singleton.1 ho⟩;have U:=hi.re.vw (H':=[Own.box b4 54 [AV.val (.int .i64 0),AV.val (.int .i64 0),AV.val (.int .i64 0),AV.val (.int .i64 0),AV.val (.int .i64 0),AV.val (.int .i64 0),AV.rows 3 []],Own.box b5 4 [AV.bool false],Own.box b7 54 (ab l x.1.1).cells]) (by rw[ss];rfl);refine wpIn_block (wpIn_seq (Ea (by exactλ_ _ h=>h) rfl ?_));refine bj λI2 a w U=>?_;refine nn ?_;refine wpIn_cond_split (U.env 15 _ rfl) (λhb=>?_) (λhb=>?_)
  .refine wpIn_seq (Ea (by exactλ_ _ h=>h) rfl ?_);refine bw λI2 a w U=>?_;refine U.o (.c1 (tK _ (hd _ (bB x.2.1)))) λU=>?_;refine aF λI2 a w U=>?_;refine nn (wpIn_ret (sJ ?_));have U:St _ I2 ([Own.box b4 54 (ab l x.1.1).cells,Own.box b5 4 [.bool true]]++[Own.box b7 54 (ab l x.1.1).cells]) [(3,.ptr [.int key])] a w:=U.pick _;have hu:=hi.un U;exact⟨(U.keeps hi.own aj).from _,rfl,x,pre,rfl,m6,hb,_,xh.back hu hu.step.le⟩
  refine wpIn_skip (wS ?_);have U:St _ I2 (H1++[Own.box b7 54 (ab l x.1.1).cells]) [(3,.ptr [.int key])] a w:=(U.pick _).vw (by rw[ss];rfl);have hu:=hi.un U;exact⟨(U.keeps hi.own aj).from _,hi.KL U,λy hy=>(List.mem_append.1 hy).elim (m6 y) λhy=>by rw[List.mem_singleton.1 hy];exact hb,_,xh.back hu hu.step.le⟩
 case done=>
  rintro D xs W hD ⟨hlen,mZ⟩ ⟨m6,I,hi⟩ hK;have F4:gf l key=none:=Mh λi hi=>by
   have hj:l.length-1-i<xs.length:=by omega
   have:=mZ _ _ (List.getElem?_eq_getElem hj);have h2:=m6 _ (List.getElem_mem hj);rw[show i=xs[l.length-1-i].1.1 from by omega];exact h2
  refine wS (ba (wpIn_seq (vo (by exact hQ) rfl ?_)));have e:({a1 with defers:={target:=.collected D,args:=#[]}::a1.defers}:Act)=Act.defer a1 [{target:=.collected D,args:=#[]}]:=by simp[Act.defer,hi.defers]
  rw[e];have U:=hi.re.vw ss;refine KG (Q:=Exit.then (λa' W'=>∃I',St ⟨W,I,19,dz H1⟩ I' [Own.box b4 54 [AV.val (.int .i64 0),AV.val (.int .i64 0),AV.val (.int .i64 0),AV.val (.int .i64 0),AV.val (.int .i64 0),AV.val (.int .i64 0),AV.rows 3 []],Own.box b5 4 [.bool false]] [(5,.val (.pointer (some ⟨b5,0,none⟩))),(4,.val (.pointer (some ⟨b4,0,none⟩)))] a' W') (λ_ _ _=>False)) _ (λe a' W' h=>?_) _ _ _ ?_
  .cases e with
   |normal=>
    obtain⟨I',h⟩:=h
    refine ba (wpIn_ret ?_)
    exact fin hD (hi.un h) ((h.keeps hi.own ae).same D _ hK rfl) rfl (by rw[F4];rfl) rfl (by simp[Act.defer,h.defers])
   |_=>exact h.elim
  refine U.o (.bd dy aT.nil) λU=>?_;refine aF λI2 a w U=>?_;exact wpList_nil (ba ⟨_,U.pick _⟩)
 rintro D c pre W hD Oe ⟨rfl,x,q,rfl,hq,iT,I,hi⟩ hK;have hx:x.1.1+1+q.length=l.length:=Oe q.length x bt;have F4:gf l key=some (ab l x.1.1):=Mg x.2.1 (λi h1 h2=>by
  have hj:l.length-1-i<q.length:=by omega
  have:=Oe (l.length-1-i) q[l.length-1-i] (by rw[List.getElem?_append_left hj,List.getElem?_eq_getElem hj]);have h3:=hq _ (List.getElem_mem hj);rw[show i=q[l.length-1-i].1.1 from by omega];exact h3) iT
 refine wpIn_ret (sJ (uP ?_));exact fin hD hi hK rfl (by rw[F4];rfl) rfl (by simp[hi.defers])
def Yl {l:List aD} {v:aD} (h:bY l=true) (hv:pM v):oC (l++[v]):=by
 have:=FG h;refine⟨by have:=fV h;simp;omega,λu hu=>?_⟩;rcases List.mem_append.1 hu with hu|hu
 .exact this.2 u hu
 obtain rfl:=List.mem_singleton.1 hu;exact hv
def YE (s:Server) (m:aw) (hg:bA s) (hm:bQ m=true):
 Fn prog 309 [s.av,m.av] (AV.c6 [(gX s m).1.av,cU (gX s m).2]):=by
 refine Fn.go 150 func309 ntmps309 (λW I a U=>?_);have al:=iL.2 hg;have cK:=hg.ok;have jM:=mD hm;have pJ:=dY jM.2.2.2;have Ow:aQ m.aY 10 11=true\/True:=.inr trivial;have lens:m.aS.length<=9223372036854775807/\m.ar.length<=9223372036854775807/\m.waits.length<=9223372036854775807/\m.aE.length<=9223372036854775807:=⟨U.ln 1 9,U.ln 1 12,U.ln 1 13,U.ln 1 14⟩;refine sr<|U.box rfl .tt λb2 I a w U=>U.o .bp λU=>U.alloc rfl ck c9 λb4 I a w U=>?_;refine ao λI a w U=>?_;refine U.l0 λA1 I a w U=>?_;obtain⟨I,U⟩:=U.fr 2 18;refine bc λI a w U=>?_;refine U.o (Iq .tt .c (λ_=>by have h9:=se hm;omega)) λU=>?_;refine bc λI a w U=>?_;refine U.o (.c1 (yk ..)) λU=>?_;refine rI λI a w U=>?_;refine U.q .F (.cl (Ez _ _ al)) λU=>?_;refine aq λI a w U=>?_;refine U.cd (λae=>?_) λae=>?_
 .rw[Bj s m] at ae;replace ae:=nt ae;refine aV λI a w U=>?_;refine U.ret rfl (.cons (.sx 1) (.cons .x aX.nil)) ?_;exact(by rw[Wl ae];rfl)
 rw[Bj s m] at ae;replace ae:=nf ae;refine dp λI a w U=>?_;refine U.o (.cl (V7 s m.key (m.aY-10) m.call)) λU=>?_;refine bc λI a w U=>?_;refine U.alloc rfl bL dy λb8 I a w U=>?_;refine aV λI a w U=>?_;refine U.cd (λah=>?_) λah=>?_
 .rw[Bool.not_eq_true'] at ah;refine zt ?_;refine U.l0 λYF I a w U=>?_;refine aq λI a w U=>?_;refine St.lo (σ:=Nat×Value) (run 2 10 (run 16 53 [])) ⟨λ⟨k,v⟩=>[(11,AV.int k),(10,AV.val v)],λ⟨k,v⟩=>[Own.box b2 95 s.cells,Own.box b4 95 [AV.val (.int .i64 0),AV.val (.bool false),AV.rows 2 [],AV.rows 7 [],AV.rows 7 [],AV.rows 3 [],AV.rows 3 []],Own.gone,Own.box b8 54 ((jT s m.key (m.aY-10) m.call).getD default).cells,Own.row v 42 2 (((m.aS.take k).map an.ax).map cA.cells)],λ⟨k,v⟩=>k<=m.aS.length⟩ (λ⟨k,v⟩=>m.aS.length-k) (0,.slice (some ⟨YF,0,none⟩) 0 0) U ?aH ?bx;case aH=>exact Nat.zero_le _
  rintro⟨k,v⟩ I a w al U;have hk:k<=m.aS.length:=al;dsimp only at U;refine cn λI a w U=>?_;refine cz (λaj=>?_) λaj=>?_
  .refine fm λI a w U=>?_;refine U.o (.li [(ab m.aS k).ax.cells] Ah (.u .nil)) λU=>?_;refine U.append 4 rfl Kp iH rfl .tt .r rfl (by simp only[List.length_map,List.length_cons,List.length_nil,List.length_take];omega) λGa a w U=>?_;refine aV λI a w U=>?_;rw[bN,show(m.aS.take k).map an.ax++[(ab m.aS k).ax]=(m.aS.take (k+1)).map an.ax from by rw[dO aj,List.map_append];rfl] at U;exact U.ag (k+1,Ga) (aj)
  refine zt ?_;refine bj λI a w U=>?_;refine U.o (.cl (Mr _ _ cK.ar)) λU=>?_;refine bc λI a w U=>?_;refine U.alloc rfl bL dy λwj I a w U=>?_;refine U.sb 5 λU=>?_;obtain⟨I,U⟩:=U.fb 5 12;refine U.s λU=>nn ?_;refine St.cut (σ:=Value) (10::(run 6 77 [])) ⟨λv=>[(10,AV.val v)],λv=>[Own.box b2 95 s.cells,Own.box b4 95 [AV.val (.int .i64 0),AV.val (.bool false),AV.rows 2 [],AV.rows 7 [],AV.rows 7 [],AV.rows 3 [],AV.rows 3 []],Own.gone,Own.box b8 54 ((jT s m.key (m.aY-10) m.call).getD default).cells,Own.row v 42 2 ((jl s m).map cA.cells),Own.gone],λv=>True⟩ U ?YG ?aiO;case YG=>
   refine ao λI a w U=>?_;refine U.cd (λaG=>?_) λaG=>?_
   .refine bc λI a w U=>?_;refine U.o (.li [((gf s.ar m.key).getD default).ax.cells] Ah (.u .nil)) λU=>?_;refine U.append 4 rfl Kp iH rfl .tt .r rfl (by simp only[List.length_map,List.length_cons,List.length_nil,List.length_take];omega) λGb a w U=>?_;refine ao λI a w U=>?_;first|rw[bN,show m.aS.take k=m.aS from List.take_of_length_le om,Bu aG] at U|rw[show m.aS.take k=m.aS from List.take_of_length_le om,Bk aG] at U
    exact U.me Gb eZ
   refine zt ?_;first|rw[bN,show m.aS.take k=m.aS from List.take_of_length_le om,Bu aG] at U|rw[show m.aS.take k=m.aS from List.take_of_length_le om,Bk aG] at U
   exact U.me v eZ
  rintro v I a w al U;refine bc λI a w U=>?_;obtain⟨I,U⟩:=U.fr 4 86;refine U.o (.cl (WI s.site (jl s m) hg.site (EL hg hm))) λU=>?_;refine bc λI a w U=>?_;refine U.alloc rfl iH gx λra I a w U=>?_;refine U.sb 6 λU=>?_;obtain⟨I,U⟩:=U.fb 6 14;refine ao λI a w U=>?_;refine U.dt 13 ?_;simp only[TD];refine mn ?_;refine .o (qm c4 cx) ?_;refine cg ?_;refine .o (xr c4 cx rfl .tt .r (λ_=>by simp;omega)) ?_;refine .o (.bd dy (.k (.t (.k (.k (.k (.k aT.nil))))))) ?_;refine .nil ?_;intro I a w U;refine bj λI a w U=>?_;refine U.o (.cl (AK s.ar (gm s m) cK.ar)) λU=>?_;refine D2 λI a w U=>?_;refine U.cd (λaK=>?_) λaK=>?_
  .rw[ME s m] at aK;replace aK:=nt aK;refine aV λI a w U=>?_;refine U.ret rfl (.cons (.sx 1) (.cons .x aX.nil)) ?_;exact(by rw[Fy ae ah aK];rfl)
  rw[ME s m] at aK;replace aK:=nf aK;refine aM λI a w U=>?_;rw[if_pos (by simp only[Bool.and_eq_true] at aK;exact aK.1.2)] at U;refine dp λI a w U=>?_;refine U.o (.bd ez (.k (.t aT.nil))) λU=>?_;refine U.o (cq (Fu s.aE (gm s m).bG (by have:=gZ hg.aE;omega)) (ai .r (ai (.t rfl) aB))) λU=>?_;refine bc λI a w U=>?_;refine U.o (cq (vP {s with ar:=ej s.ar (gm s m),aE:=ek s.aE (gm s m).bG} (Fx hg hm (by simp only[Bool.and_eq_true] at ae;exact ae.2) aK).ok) (ai (.t rfl) aB)) λU=>?_;refine ao λI a w U=>?_;refine U.db (([0],none)::([],none)::([0],none)::([],none)::([],none)::([],none)::([],none)::([],none)::([],none)::([],none)::([3],none)::rp 2 [([1],some (1,[])),([],none)]) aP aP rfl ?_;refine .r [0] (.ls 0) ?_;refine aW ?_;refine .r [0] (.lb 0) ?_;refine jJ ?_;refine .r [3] (.ls 3) ?_;refine .o (.bd dr (.k (.k (.k (.k (.k (.t aT.nil))))))) ?_;refine .o (.li [({kW s m (gm s m).ax with aY:=(gW {s with ar:=ej s.ar (gm s m),aE:=ek s.aE (gm s m).bG}).site}).cells] fo (.u .nil)) ?_;refine aI.de (x:=AV.any) 1 (λF W0 I0 I γ a w Q U kk=>U.sb 1 λU=>kk _ _ _ U) ?_;refine aW ?_;refine .nil ?_;intro I a w U;refine zt ?_;refine U.ret rfl (.cons (.sx 1) (.cons .x aX.nil)) ?_;exact(by rw[MF ae ah aK,(xY _).1];rfl)
 rw[Bool.not_eq_false'] at ah;refine zt ?_;refine U.db (([0],none)::([],none)::([0],none)::([],none)::([],none)::([],none)::([],none)::([],none)::([],none)::([],none)::([3],none)::rp 2 [([1],some (1,[])),([],none)]) aP aP rfl ?_;refine .r [0] (.ls 0) ?_;refine aW ?_;refine .r [0] (.lb 0) ?_;refine jJ ?_;refine .r [3] (.ls 3) ?_;refine .o (.bd dr (.k (.k (.k (.k (.k (.t aT.nil))))))) ?_;refine .o (.li [(kW s m ((jT s m.key (m.aY-10) m.call).getD default).ax).cells] fo (.u .nil)) ?_;refine aI.de (x:=AV.any) 1 (λF W0 I0 I γ a w Q U kk=>U.sb 1 λU=>kk _ _ _ U) ?_;refine aW ?_;refine .nil ?_;intro I a w U;refine zt ?_;refine U.ret rfl (.cons (.sx 1) (.cons .x aX.nil)) ?_;exact(by rw[Ls ae ah];rfl)
end Go.Proofs.YtldbakcpcfdlaaaGreat
