/- Part 24: contracts of functions, plain facts. -/
import Derived.Test.YtldbakcpcfdlaaaGreatP17
import Derived.Test.YtldbakcpcfdlaaaGreatP18
import Derived.Test.YtldbakcpcfdlaaaGreatP19
import Derived.Test.YtldbakcpcfdlaaaGreatP20
set_option linter.all false
set_option maxRecDepth 100000
set_option maxHeartbeats 4000000
namespace Go.Proofs.YtldbakcpcfdlaaaGreat
open Go Go.RowKit Tryz
attribute [local irreducible] wpList Code.wp Ok
def H7 (m:az) (h1:db m.bj) (h2:db m.to):
 Fn prog 69 [m.av] (AV.bool (bY m)):=by
 refine Fn.go 66 func69 ntmps69 (λW I a U=>?_);refine aR λI a w U=>?_;refine U.o (.cl (im ..)) λU=>?_;refine aV λI a w U=>?_;refine U.q .T (.cl (Oz _ h1)) λU=>?_;refine aR λI a w U=>?_;refine U.q .T (.cl (Oz _ h2)) λU=>?_;refine aR λI a w U=>?_;refine U.q .T (.cl (im ..)) λU=>?_;refine aR λI a w U=>?_;refine U.q .T (.cl (zi ..)) λU=>?_;refine aR λI a w U=>?_;refine U.q .T (.cl (Oy ..)) λU=>?_;refine aR λI a w U=>?_;refine U.q .T (.cl (im ..)) λU=>?_;refine aR λI a w U=>?_;refine U.q .T (.cl (Aa ..)) λU=>?_;refine aR λI a w U=>?_;refine U.q .T (.cl (im ..)) λU=>?_;refine aR λI a w U=>?_;refine U.q .T (.cl (im ..)) λU=>?_;refine aR λI a w U=>?_;refine U.q .T (.cl (Am ..)) λU=>?_;refine aR λI a w U=>?_;refine U.q .T (.cl (Am ..)) λU=>?_;refine aR λI a w U=>?_;refine U.q .T (.cl (G4 ..)) λU=>?_;refine cK ?_;rfl
def H8 (m:az):
 Fn prog 89 [m.av] (AV.bool (bY m)):=by
 refine Fn.go 76 func89 ntmps89 (λW I a U=>?_);refine aR λI a w U=>?_;refine U.o (.cl (iu ..)) λU=>?_;refine aV λI a w U=>?_;refine U.q .T (.cl (qw ..)) λU=>?_;refine aV λI a w U=>?_;refine U.q .F2 (.cl (zH ..)) λU=>?_;refine bV λI a w U=>?_;refine U.q .T (.cl (qw ..)) λU=>?_;refine aV λI a w U=>?_;refine U.q .F2 (.cl (zH ..)) λU=>?_;refine bV λI a w U=>?_;refine U.q .T (.cl (iu ..)) λU=>?_;refine aR λI a w U=>?_;refine U.q .T (.cl (s9 ..)) λU=>?_;refine aR λI a w U=>?_;refine U.q .T (.cl (LH ..)) λU=>?_;refine aR λI a w U=>?_;refine U.q .T (.cl (iu ..)) λU=>?_;refine aR λI a w U=>?_;refine U.q .T (.cl (qN ..)) λU=>?_;refine aR λI a w U=>?_;refine U.q .T (.cl (iu ..)) λU=>?_;refine aR λI a w U=>?_;refine U.q .T (.cl (iu ..)) λU=>?_;refine aR λI a w U=>?_;refine U.q .T (.cl (tJ ..)) λU=>?_;refine aR λI a w U=>?_;refine U.q .T (.cl (tJ ..)) λU=>?_;refine aR λI a w U=>?_;refine U.q .T (.cl (G5 ..)) λU=>?_;refine cK ?_;rfl
def aba {c:Call} (h:m5 c=true) (hd:ck c.aO=true) {i:Nat} (hi:i<c.aO.length):td c i=pz c i:=by
 unfold td pz;by_cases hg:0<=cQ c (ae c.aO i).key
 .have h2:=pK hd (bK hi);simp only[kh,Bool.and_eq_true] at h2;rw[NG (G7 h (tH hg)).1 h2.2]
 simp[hg]
def lE (w:aM) (e:Ev):aM×Bool:=
 if fC e.aB&&decide (cI w.calls e.aB<0) then({w with calls:=w.calls++[pL w e]},iX (w.calls++[pL w e]) w.time) else(w,false)
def jo (w:aM) (e:Ev):aM×Bool:=
 if e.kind=1 then lE w e else
 let i:=cI w.calls e.aB
 if i<0 then(w,false)
 else if e.kind=3 then({w with calls:=w.calls.set i.toNat {ae w.calls i.toNat with over:=true}},true)
 else({w with aC:=fe w.aC (jF (ae w.calls i.toNat))},true)
def PE (q:Call) (k:Nat):(!u0 (ae q.au k)||!gJ q.keys (ae q.au k).key||(decide (0<(k:Int))&&decide ((ae q.au k).key<=(ae q.au ((k:Int)-1).toNat).key)))=!tG q k:=by
 unfold tG;rw[Bool.or_assoc,GQ];simp
def abb (q:Call):
 Fn prog 227 [q.av] (AV.bool (oN q)):=by
 refine Fn.go 100 func227 ntmps227 (λW I a U=>?_);have lens:q.keys.length<=9223372036854775807/\q.au.length<=9223372036854775807/\q.aO.length<=9223372036854775807:=⟨U.ln 0 3,U.ln 0 11,U.ln 0 12⟩;refine gy λI a w U=>?_;refine St.lo (σ:=Nat) (run 3 2 (run 56 11 [])) ⟨λk=>[(11,AV.int k)],λk=>[],λk=>k<=q.au.length/\∀i,i<k->(oM q) i=true⟩ (λk=>q.au.length-k) 0 U ?aD ?bh;case aD=>exact⟨Nat.zero_le _,λi hi=>by omega⟩
 rintro k I a w aj U;obtain⟨qD,aT⟩:=aj;refine al λI a w U=>?_;refine cz (λab=>?_) λab=>?_
 .refine aV λI a w U=>?_;refine U.alloc rfl dI lq λb4 I a w U=>?_;refine ax λI a w U=>?_;obtain⟨I,U⟩:=U.fb 0 4;refine U.dk ?_;refine ef ?_;refine .o (.cl (Ns ..)) ?_;refine n5 ?_;refine br ?_;refine .nil ?_;intro I a w U;refine ba ?_;refine U.cd (λah=>?_) λah=>?_
  .rw[GQ] at ah;replace ah:=nt ah;refine aW ?_;exact bT (by unfold oN m5;rw[fI (f:=oM q) ab (by unfold oM;rw[ah];rfl)];rfl)
  rw[GQ] at ah;replace ah:=nf ah;refine bV λI a w U=>?_;refine U.q .T (.cl (G2 ..)) λU=>?_;refine Ky λI a w U=>?_;refine U.q .T2 (.bd dY bf.nil) λU=>?_;refine U.q .T2 (.cl (XA _ tj)) λU=>?_;refine aI λI a w U=>?_;refine U.cd (λai=>?_) λai=>?_
  .rw[MX] at ai;replace ai:=nt ai;refine aW ?_;exact bT (by unfold oN m5;rw[fI (f:=oM q) ab (by unfold oM;rw[ah,ai];rfl)];rfl)
  rw[MX] at ai;replace ai:=nf ai;refine ax λI a w U=>?_;have U:=U.drop 0;exact U.ag (k+1) (⟨by omega,gf aT (by unfold oM;rw[ah,ai];rfl)⟩)
 refine zt ?_;refine aU λI a w U=>?_;refine St.lo (σ:=Nat) (2::(run 2 6 (run 22 70 []))) ⟨λk2=>[(70,AV.int k2)],λk2=>[],λk2=>k2<=q.aO.length/\∀i,i<k2->(pz q) i=true⟩ (λk2=>q.aO.length-k2) 0 U ?eL ?jX;case eL=>exact⟨Nat.zero_le _,λi hi=>by omega⟩
 rintro k2 I a w aj U;obtain⟨xl,iW⟩:=aj;refine al λI a w U=>?_;refine cz (λaG=>?_) λaG=>?_
 .refine aA λI a w U=>?_;refine U.alloc rfl cM fE λb6 I a w U=>?_;refine al λI a w U=>?_;obtain⟨I,U⟩:=U.fb 0 6;refine aV λI a w U=>?_;refine U.o (.c2 (Og ..)) λU=>?_;refine al λI a w U=>?_;refine U.dk ?_;refine gS ?_;refine .q .F ((by first|exact fT eD dI .ag .ag (λhg=>by have h0:0<=cQ q (ae q.aO k2).key:=(by simpa using hg);have:=tH h0;omega)|exact iO eD dI .ag .ag (λhg=>by have h0:0<=cQ q (ae q.aO k2).key:=(by simpa using hg);have:=tH h0;omega)|exact iZ eD dI .ag .ag (λhg=>by have h0:0<=cQ q (ae q.aO k2).key:=(by simpa using hg);have:=tH h0;omega))) ?_;refine ee ?_;refine .q .F (.cl (Mn ..)) ?_;refine cy ?_;refine .nil ?_;intro I a w U;refine ba ?_;refine U.cd (λaL=>?_) λaL=>?_
  .rw[Mh] at aL;replace aL:=nt aL;refine aW ?_;exact bT (by unfold oN m5;rw[fD aT om,fI (f:=pz q) aG aL];rfl)
  rw[Mh] at aL;replace aL:=nf aL;refine ax λI a w U=>?_;have U:=U.drop 0;exact U.ag (k2+1) (⟨by omega,gf iW aL⟩)
 refine zt ?_;refine df λI a w U=>?_;refine U.q .F (.cl (Nu ..)) λU=>?_;refine cK ?_;exact bT (by unfold oN m5;rw[fD aT om,fD iW om];rfl)
def abc (m:az) (h1:db m.bj) (h2:db m.to):
 Fn prog 68 [m.av] (AV.bool (uM m)):=by
 refine Fn.go 6 func68 ntmps68 (λW I a U=>?_);refine aV λI a w U=>?_;refine U.o (.c1 (H7 _ h1 h2)) λU=>?_;refine cK ?_;rfl
def Dt (l:List aJ) (v:aJ) (hc:cD l=true):
 Fn prog 295 [cm l,v.av] (AV.c8 [cm (if iv l v then fF l v else l),AV.bool (iv l v)]):=by
 refine Fn.go 37 func295 ntmps295 (λW I a U=>?_);have hle:=U.dD (t:=0) rfl;have Ao:=gV hc;have kj:=tf hc;refine aR λI a w U=>?_;refine U.o (.cl (tJ ..)) λU=>?_;refine al λI a w U=>?_;refine U.cd (λab=>?_) λab=>?_
 .exfalso;rw[hc] at ab;cases ab;skip
 refine bV λI a w U=>?_;refine U.o (.cl (sj ..)) λU=>?_;refine aV λI a w U=>?_;refine U.alloc rfl bI dY λb6 I a w U=>?_;refine U.sb 0 λU=>?_;obtain⟨I,U⟩:=U.fb 0 6;refine aA λI a w U=>?_;refine U.o (.c1 (Ht ..)) λU=>?_;refine iG λI a w U=>?_;refine U.cd (λah=>?_) λah=>?_
 .rw[L0 v hc] at ah;replace ah:=nt ah;refine aX λI a w U=>?_;refine U.o (bx (uW l om (λu hu=>by have:=kj u hu;omega)) (an .r aH)) λU=>?_;refine cK ?_;exact(by rw[ah];rfl)
 rw[L0 v hc] at ah;replace ah:=nf ah;refine aA λI a w U=>?_;refine U.o (bx (YG l v om (λu hu=>by have:=kj u hu;omega) (by have:=gU (F0 (uP ah).1);omega)) (an .r (an (.t rfl) aH))) λU=>?_;refine cK ?_;exact(by rw[ah,<-Nq (qv (uP ah).2.1)];rfl)
def abd {s:Server} {m:az} (h:bE s) (hm:bY m=true):∀w∈iK s m,bY w=true:=by
 unfold iK;split
 .split
  .intro w hw;obtain rfl:w=_:=by simpa using hw
   exact NK h hm λv hv=>g7 h.ar v (Gw hv).1
  split
  .rename_i v hv;intro w hw;obtain rfl:w=_:=by simpa using hw
   exact NK h hm λu hu=>by cases hu;exact g7 h.ar v (M7 hv).1
  intro w hw;simp at hw
 intro w hw;simp at hw
def abe {s:Server} {m:az} (h:bE s) (hm:bY m=true):∀w∈(ia s m).2,bY w=true:=by
 unfold ia;split
 .rename_i hr;have hv:fi (ae m.ar 0)=true:=g7 (nK hm).1 _ (bK (by rw[(Cv hr).2.2.1];omega));dsimp only;split
  .split
   .intro w hw;obtain rfl:w=_:=by simpa using hw
    exact NL h hm hv
   intro w hw;simp at hw
  intro w hw;obtain rfl:w=_:=by simpa using hw
  exact NL h hm hv
 intro w hw;simp at hw
def abf {s:Server} {m:az} (h:bE s) (hm:bY m=true):∀w∈(ib s m).2,bY w=true:=by
 unfold ib;split
 .split
  .intro w hw;obtain rfl:w=_:=by simpa using hw
   exact NM h hm
  split
  .intro w hw;obtain rfl:w=_:=by simpa using hw
   exact NM h hm
  intro w hw;simp at hw
 intro w hw;simp at hw
def xu (s:Server) (h:eI s):
 Fn prog 337 [s.av] ((g9 s).av):=by
 refine Fn.go 91 func337 ntmps337 (λW I a U=>?_);refine sr<|U.box rfl .tt λb1 I a w U=>U.alloc rfl bL di λb2 I a w U=>?_;refine al λI a w U=>?_;refine St.lo (σ:=Bool×Server) (run 5 3 (run 55 10 [])) ⟨λ⟨g,u⟩=>[(3,AV.bool g)],λ⟨g,u⟩=>[Own.box b1 95 u.cells,Own.box b2 95 [AV.val (.int .i64 0),AV.val (.bool false),AV.rows 2 [],AV.rows 7 [],AV.rows 7 [],AV.rows 3 [],AV.rows 3 []]],λ⟨g,u⟩=>eI u/\ir u=ir s/\(g=false->fo u<0)/\u.bq=s.bq⟩ (λ⟨g,u⟩=>2*u.waits.length+g.toNat) (true,s) U ?aD ?bh;case aD=>exact⟨h,rfl,(λe=>by cases e),rfl⟩
 rintro⟨g,u⟩ I a w aj U;obtain⟨hu,nR,abg,C3⟩:=aj;have ki:=gV hu.waits;have gr:=hu.bq;dsimp only at U;refine al λI a w U=>?_;refine U.cd (λab=>?_) λab=>?_
 .refine ax λI a w U=>?_;refine St.lo (σ:=Nat×Bool×Server) (run 5 3 (run 54 11 [])) ⟨λ⟨i,g2,u2⟩=>[(4,AV.int i),(3,AV.bool g2)],λ⟨i,g2,u2⟩=>[Own.box b1 95 u2.cells,Own.box b2 95 [AV.val (.int .i64 0),AV.val (.bool false),AV.rows 2 [],AV.rows 7 [],AV.rows 7 [],AV.rows 3 [],AV.rows 3 []]],λ⟨i,g2,u2⟩=>(g2=false->u=u2/\i<=u.waits.length/\(u.ar.length<80->∀j,j<i->lz u (ae u.waits j)=false))/\(g2=true->0<=fo u/\u2=mT u (fo u).toNat)⟩ (λ⟨i,g2,u2⟩=>if g2 then 0 else u.waits.length-i+1) (0,false,u) U ?eL ?jX;case eL=>exact⟨λ_=>⟨rfl,Nat.zero_le _,λ_ j hj=>by omega⟩,λe=>by cases e⟩
  rintro⟨i,g2,u2⟩ I a w aj U;obtain⟨hf,ht⟩:=aj;dsimp only at U;refine iG λI a w U=>?_;refine cz (λah=>?_) λah=>?_
  .obtain⟨hi,qX⟩:=ah;obtain⟨rfl,jN,ob⟩:=hf qX;subst qX;refine aV λI a w U=>?_;refine U.o ((by first|exact fT du bI .tt .tt (λ_=>by exact hi)|exact iO du bI .tt .tt (λ_=>by exact hi)|exact iZ du bI .tt .tt (λ_=>by exact hi))) λU=>?_;refine U.o .la λU=>?_;refine U.alloc rfl bI dY λb5 I a w U=>?_;refine al λI a w U=>?_;obtain⟨I,U⟩:=U.fb 2 5;refine U.dk ?_;refine ef ?_;refine .o (.c1 (ta _)) ?_;refine .o ((by first|exact fT eM dP .tt .tt (λ_=>by have:=ph (pr (s6 hu.waits hi));have:=hu.aQ;omega)|exact iO eM dP .tt .tt (λ_=>by have:=ph (pr (s6 hu.waits hi));have:=hu.aQ;omega)|exact iZ eM dP .tt .tt (λ_=>by have:=ph (pr (s6 hu.waits hi));have:=hu.aQ;omega))) ?_;refine gS ?_;refine .q .F (.cl (Zc u (ae u.waits i) hu.ar)) ?_;refine cy ?_;refine .nil ?_;intro I a w U;refine ba ?_;refine U.cd (λai=>?_) λai=>?_
   .rw[Nx] at ai;replace ai:=nt ai;refine zt ?_;refine aI λI a w U=>?_;have U:=U.drop 2;exact U.ag (i+1,false,u) (⟨λ_=>⟨rfl,hi,λod j hj=>by rcases Nat.lt_succ_iff_lt_or_eq.1 hj with h|h;exact ob od j h;rw[h];exact ai⟩,λe=>by cases e⟩) (hμ:=by simp;try omega)
   rw[Nx] at ai;replace ai:=nf ai;refine aV λI a w U=>?_;refine U.o (.cl (Dt u.ar (ae u.waits i) hu.ar)) λU=>?_;refine gy λI a w U=>?_;refine U.cd (λaG=>?_) λaG=>?_
   .refine aI λI a w U=>?_;have U:=U.dH;refine U.fV (rp 2 (([0],none)::rp 2 (([3],some (3,[57]))::([],none)::([0],none)::rp 3 [([3],some (3,[])),([],none),([0],some (0,[]))]))) aq aq rfl ?_;refine .o (sT du bI) ?_;refine br ?_;refine .r [0] (.lb 0) ?_;refine br ?_;refine .o (AY du bI .r .tt (λ_=>by simp;omega)) ?_;refine aP.yK 3 rfl rfl du bI rfl .tt .r (by have:=gV hu.waits;simp;omega) ?_;refine br ?_;refine .r [0] (.lb 0) ?_;refine cy ?_;refine .o (D6 du bI .r .tt (λ_=>by simp;omega)) ?_;refine aP.Bh 3 rfl rfl du bI rfl .r (by have:=gV hu.waits;simp;omega) ?_;refine br ?_;refine aP.gZ (x:=AV.any) 0 (λF W0 I0 I γ a w Q U kk=>U.s1 0 λU=>kk _ _ _ U) ?_;refine .nil ?_;intro I a w U;rw[<-List.map_take,<-List.map_drop,<-List.map_append,if_pos aG,show((i:Int)+1).toNat=i+1 by omega,Int.toNat_natCast] at U;change St _ _ [Own.box b1 95 (mT u i).cells,Own.box b2 95 [AV.val (.int .i64 0),AV.val (.bool false),AV.rows 2 [],AV.rows 7 [],AV.rows 7 [],AV.rows 3 [],AV.rows 3 []],Own.gone,Own.gone] _ _ _ at U;refine aU λI a w U=>?_;have U:=U.drop 2;exact U.ag (i+1,true,mT u i) (⟨(λe=>by cases e),λ_=>by have e:=Ve (uP aG).2.2 hi (ob (uP aG).2.2) ai;rw[e];exact⟨by omega,by simp⟩⟩) (hμ:=by simp;try omega)
   refine aI λI a w U=>?_;have U:=U.drop 2;exact U.ag (i+1,false,u) (⟨λ_=>⟨rfl,hi,λod=>by have:=Vn hu hi aG;omega⟩,λe=>by cases e⟩) (hμ:=by simp;try omega)
  rw[Nat.not_lt] at ah;refine zt ?_;exact U.ag (g2,u2) (YR hu nR C3 hf ht ah) (hμ:=by subst ab;exact Xj hf ht)
 refine zt ?_;refine U.l0 λb65 I a w U=>?_;refine ax λI a w U=>?_;refine St.lo (σ:=Nat×Value) (run 2 8 (run 22 66 [])) ⟨λ⟨k,v⟩=>[(9,AV.int k),(8,AV.val v)],λ⟨k,v⟩=>[Own.box b1 95 u.cells,Own.box b2 95 [AV.val (.int .i64 0),AV.val (.bool false),AV.rows 2 [],AV.rows 7 [],AV.rows 7 [],AV.rows 3 [],AV.rows 3 []],Own.row v 125 3 (((u.bq.take k).filter (g8 u)).map ao.cells)],λ⟨k,v⟩=>k<=u.bq.length⟩ (λ⟨k,v⟩=>u.bq.length-k) (0,.slice (some ⟨b65,0,none⟩) 0 0) U ?iA ?oL;case iA=>exact Nat.zero_le _
 rintro⟨k,v⟩ I a w aj U;have hk:k<=u.bq.length:=aj;dsimp only at U;refine bP λI a w U=>?_;refine cz (λaL=>?_) λaL=>?_
 .refine zt ?_;refine U.dk ?_;refine gS ?_;refine .o (.c2 (Mt ..))<|.nil ?_;intro I a w U;refine ba ?_;refine cz (λbc=>?_) λbc=>?_
  .refine df λI a w U=>?_;refine U.o (.li [(ae u.bq k).cells] gM (.u .nil)) λU=>?_;refine U.append 2 rfl dw cM rfl .tt .r rfl (by have h1:=qC (g8 u) u.bq k;have h2:=hu.bq;simp;omega) λH9 a w U=>?_;rw[cA,<-mU aL bc] at U;refine aU λI a w U=>?_;exact U.ag (k+1,H9) (aL)
  refine aI λI a w U=>?_;rw[show(u.bq.take k).filter (g8 u)=(u.bq.take (k+1)).filter (g8 u) from(mV aL bc).symm] at U;exact U.ag (k+1,v) (aL)
 refine zt ?_;refine U.m λU=>?_;obtain⟨I,U⟩:=U.fr 2 88;refine aU λI a w U=>?_;have e1:g9 s=BY u:=by unfold g9;rw[<-nR,Lx (abg ab)]
 have e2:u.bq.take k=u.bq:=List.take_of_length_le om;refine U.ret rfl (.cons (.sx 1) aZ.nil) ?_;exact(by rw[e1,e2];rfl)
def abi (s:Server) (m:az) (aj:eI s) (h0:de s.site=true):
 Fn prog 314 [s.av,m.av] ((oC s m).av):=by
 refine Fn.go 37 func314 ntmps314 (λW I a U=>?_);have h8:=aj.bq;refine sr<|U.box rfl .tt λb2 I a w U=>U.o .bp λU=>U.alloc rfl bL di λb4 I a w U=>?_;refine aR λI a w U=>?_;refine U.o (.bd fE (.k (.t bf.nil))) λU=>?_;refine U.alloc rfl cM fE λb5 I a w U=>?_;refine al λI a w U=>?_;obtain⟨I,U⟩:=U.fb 2 5;refine U.dk ?_;refine ef ?_;refine .o (.c1 (xb _ h0)) ?_;refine ef ?_;refine .q .F (.cl (Mt s ⟨m.key,m.aw⟩)) ?_;refine kz ?_;refine .nil ?_;intro I a w U;refine ba ?_;refine U.cd (λab=>?_) λab=>?_
 .rw[M9 s m] at ab;replace ab:=nt ab;refine ax λI a w U=>?_;refine U.ret rfl (.cons (.sx 1) aZ.nil) ?_;exact(by unfold oC;rw[ab];rfl)
 rw[M9 s m] at ab;replace ab:=nf ab;refine aV λI a w U=>?_;refine U.o (bx (G9 s.bq ⟨m.key,m.aw⟩ om) (an .r (an (.t rfl) aH))) λU=>?_;refine aV λI a w U=>?_;refine U.o (bx (xu {s with bq:=eN s.bq ⟨m.key,m.aw⟩} (aj.OT (by simp only[B] at ab;omega))) (an (.t rfl) aH)) λU=>?_;refine al λI a w U=>?_;refine U.ret rfl (.cons (.sx 1) aZ.nil) ?_;exact(by unfold oC;rw[ab];rfl)
def abj (s:Server) (m:az) (aj:eI s) (h0:de s.site=true) (ho:s.aE.length<=80) (hm:bY m=true):
 Fn prog 316 [s.av,m.av] ((oD s m).av):=by
 refine Fn.go 53 func316 ntmps316 (λW I a U=>?_);have tI:=B9 hm;have h3:=aj.aQ;have h4:(eJ s m.slot).aQ.length=3:=h3;have e9:∀x,x=ct.cells ⟨m.bX,0⟩->(List.map ct.cells (eJ s m.slot).aQ).set m.slot.toNat x=List.map ct.cells (s7 s m).aQ:=λx h=>by rw[h];exact List.map_set.symm
 refine sr<|U.box rfl .tt λb2 I a w U=>U.o .bp λU=>U.alloc rfl bL di λb4 I a w U=>nn<|wp_seq<|wp_seq<|U.dk ?_;refine ef ?_;refine .o (.c1 (xb _ h0)) ?_;refine n5 ?_;refine ky ?_;refine .nil ?_;intro I a w U;refine ba ?_;refine U.cd (λab=>?_) λab=>?_
 .rw[Na s m] at ab;replace ab:=nt ab;refine ax λI a w U=>?_;refine U.ret rfl (.cons (.sx 1) aZ.nil) ?_;exact(by unfold oD;rw[ab];rfl)
 rw[Na s m] at ab;replace ab:=nf ab;refine aV λI a w U=>?_;refine U.o (.c2 (OU s m.slot aj.ar aj.waits ho)) λU=>?_;refine al λI a w U=>?_;refine U.l0 λb38 I a w U=>?_;refine aA λI a w U=>?_;refine U.ap 2 λxj a w U=>?_;refine U.o .fv λU=>?_;try have aat:=U.cU 2 rfl
 refine al λI a w U=>?_;simp only[List.nil_append] at U;obtain⟨b41,ahr,HO⟩:=U.iS 2 rfl cq;subst HO;refine df λI a w U=>?_;refine U.o (.bd kD (.k bf.nil)) λU=>?_;refine U.o (gv eM dP .tt .tt (λ_=>by simp only[List.length_map];omega)) λU=>?_;refine U.ja 2 dP .tt .tt rfl (by exact fq om) rfl rfl λa w U=>?_;refine zt ?_;rw[e9] at U;rotate_left
 .rfl
 obtain⟨I,U⟩:=U.fu 2 2 0;refine aX λI a w U=>?_;refine U.o (.c1 (xu (s7 s m) (aj.gone m))) λU=>?_;refine al λI a w U=>?_;refine U.ret rfl (.cons (.sx 1) aZ.nil) ?_;exact(by unfold oD;rw[ab];rfl)
def PF {l vs:List aJ} {k:Nat} (hl:cD l=true) (hv:cD vs=true) (hn:l.length+vs.length<=80) (hk:k<vs.length):Fn prog 295 [cm (jn l (vs.take k)),(ae vs k).av] (AV.c8 [cm (jn l (vs.take (k+1))),AV.bool (iv (jn l (vs.take k)) (ae vs k))]):=by
 have h2:=GP l vs k;have:=Dt (jn l (vs.take k)) (ae vs k) (NC hl hv hn k om);rwa[Yv (g7 hv _ (bK hk)) om,<-CL hk] at this
def abk (s:Server) (slot:Int) (hg:bE s):
 Fn prog 238 [s.av,AV.int slot] (AV.c8 [(eF s slot).1.av,(eF s slot).2.1.av,AV.bool (eF s slot).2.2]):=by
 refine Fn.go 59 func238 ntmps238 (λW I a U=>?_);have aj:=iU.2 hg;have c6:=hg.ok;have hZ:=hg.small;have h3:=hg.aQ;have PG:aS slot 0 2=true->(ae s.aQ slot.toNat).bX<=9999:=λhi=>by have h9:=hg.cX _ (bK (l:=s.aQ) (k:=slot.toNat) (by simp[aS] at hi;omega));exact(vb.1 h9).2.1
 have e9:∀x,x=ct.cells ⟨(ae s.aQ slot.toNat).bX+1,2⟩->(List.map ct.cells s.aQ).set slot.toNat x=List.map ct.cells (pA s slot).aQ:=λx h=>by rw[h];exact List.map_set.symm
 refine aX λI a w U=>?_;refine U.alloc rfl bL di λb4 I a w U=>U.alloc rfl cH dN λb5 I a w U=>?_;refine aA λI a w U=>?_;refine U.o (.c1 (vh ..)) λU=>?_;refine al λI a w U=>?_;refine U.cd (λab=>?_) λab=>?_
 .exfalso;rw[aj] at ab;cases ab;skip
 refine aX λI a w U=>?_;refine U.dX [] (zu s hZ) (an .tt aH) rfl bA rfl λ⟨vS,vV,vW,vO,vK⟩ I a w qO U=>?_;unfold Server.Ly at U;have U:=U.nf;refine U.alloc rfl bL di λb7 I a w U=>?_;refine U.sb 7 λU=>?_;refine wpList_nil ?_;obtain⟨I,U⟩:=U.fu 3 3 7;obtain⟨I,U⟩:=U.fu 4 4 7;obtain⟨I,U⟩:=U.fu 5 5 7;obtain⟨I,U⟩:=U.fu 6 6 7;have U:=U.nf;refine bV λI a w U=>?_;refine U.q .F (.cl (im ..)) λU=>?_;refine df λI a w U=>?_;refine U.q .F ((by first|exact fT eM dP .ag .ag (λhg=>by simp[aS] at hg;omega)|exact iO eM dP .ag .ag (λhg=>by simp[aS] at hg;omega)|exact iZ eM dP .ag .ag (λhg=>by simp[aS] at hg;omega))) λU=>?_;refine lJ λI a w U=>?_;refine U.q .F ((by first|exact fT eM dP .ag .ag (λhg=>by simp[aS] at hg;omega)|exact iO eM dP .ag .ag (λhg=>by simp[aS] at hg;omega)|exact iZ eM dP .ag .ag (λhg=>by simp[aS] at hg;omega))) λU=>?_;refine aU λI a w U=>?_;refine U.cd (λah=>?_) λah=>?_
 .rw[L9 PG] at ah;replace ah:=nt ah;obtain⟨I,U⟩:=U.fu 2 2 7;refine sr<|U.o (.ls 7) λU=>?_;refine U.o (.bd dN bf.nil) λU=>?_;refine aI λI a w U=>?_;refine U.ret rfl (.cons (.sx 0) (.cons (.sx 1) (.cons (.t rfl) aZ.nil))) ?_;exact(by unfold eF;rw[ah];rfl)
 rw[L9 PG] at ah;replace ah:=nf ah;have hmp:=zL ah;have hsr:=vb.1 (CK hg (i:=slot.toNat) om);have vx:=C2 hg ah;refine zt ?_;obtain⟨bS,cS,rfl⟩:=U.iS 2 rfl jr;refine U.dt 12 ?_;simp only[TD];refine br ?_;refine .o (.lb 7) ?_;refine kz ?_;refine .o (.bd kD (.k (.k bf.nil))) ?_;refine .o (gv eM dP .tt .tt (λ_=>by simp only[List.length_map];omega)) ?_;refine .nil ?_;intro I a w U;refine U.ja 2 dP .tt .tt rfl (by exact fq om) rfl rfl λa w U=>?_;refine zt ?_;rw[e9] at U;rotate_left
 .rfl
 obtain⟨I,U⟩:=U.fu 2 2 7;have U:=U.nf;refine U.dt 4 ?_;simp only[TD];refine .o (.ls 7)<|.o (.ls 7) ?_;refine br ?_;refine .o (bx (OB (pA s slot) slot vx.small vx.site vx.aQ om) (an (.t rfl) (an (.t rfl) aH))) ?_;refine .nil ?_;intro I a w U;refine aI λI a w U=>?_;refine U.ret rfl (.cons (.sx 0) (.cons (.sx 1) (.cons (.t rfl) aZ.nil))) ?_;exact(by unfold eF;rw[ah];rfl)
def Ia {q:Call} {k:Nat} (hk:¬q.kind=1) (h:q.aO.length<=k):qM q k=asks q:=by
 unfold asks qM oP;rw[if_neg hk,List.take_length,List.take_of_length_le h];rfl
def Ib {q:Call}:(asks q).length<=q.keys.length+q.aO.length+1:=by
 by_cases hk:q.kind=1
 .unfold asks;rw[if_pos hk];simp
 rw[<-Ia hk (Nat.le_refl _)];have:=OM q q.aO.length;omega
def Ic {w:aM} {e:Ev} (h:(fC e.aB&&decide (cI w.calls e.aB<0))=false):lE w e=(w,false):=by unfold lE;rw[h];rfl
def Ax {w:aM} {e:Ev} (h:(fC e.aB&&decide (cI w.calls e.aB<0))=true):lE w e=({w with calls:=w.calls++[pL w e]},iX (w.calls++[pL w e]) w.time):=by unfold lE;rw[h];rfl
def abn {w:aM} {e:Ev} (h:e.kind=1):jo w e=((lE w e).1,(lE w e).2):=by unfold jo;rw[if_pos h]
def abo {w:aM} {e:Ev} (h:¬e.kind=1) (hn:cI w.calls e.aB<0):jo w e=(w,false):=by unfold jo;rw[if_neg h];dsimp only;rw[if_pos hn]
def abp {w:aM} {e:Ev} (h:¬e.kind=1) (hn:0<=cI w.calls e.aB) (h3:e.kind=3):jo w e=({w with calls:=w.calls.set (cI w.calls e.aB).toNat {ae w.calls (cI w.calls e.aB).toNat with over:=true}},true):=by unfold jo;rw[if_neg h];dsimp only;rw[if_neg om,if_pos h3]
def abq {w:aM} {e:Ev} (h:¬e.kind=1) (hn:0<=cI w.calls e.aB) (h3:¬e.kind=3):jo w e=({w with aC:=fe w.aC (jF (ae w.calls (cI w.calls e.aB).toNat))},true):=by unfold jo;rw[if_neg h];dsimp only;rw[if_neg om,if_neg h3]
def HW {c:Call} (hk:kf c.keys=true) (h:m5 c=true):c.au.length<=c.keys.length:=
 B4 (f:=Answer.key) (ON hk) (LS λi h0 hi=>by
  have:=(jc.1 h) i hi;unfold oM eU at this;simp[gm] at this;have h1:=this.1.2;omega) λa ha=>by
  obtain⟨k,ek,rfl⟩:=iq ha;exact Ab.1 (G7 h ek).2
def tO (s:Server):
 Fn prog 88 [s.av] (AV.bool (gN s)):=by
 refine Fn.go 177 func88 ntmps88 (λW I a U=>?_);have lens:s.aQ.length<=9223372036854775807/\s.ar.length<=9223372036854775807/\s.waits.length<=9223372036854775807/\s.aE.length<=9223372036854775807:=⟨U.ln 0 2,U.ln 0 3,U.ln 0 4,U.ln 0 5⟩;refine aR λI a w U=>?_;refine U.o (.c1 (qw ..)) λU=>?_;refine qg λI a w U=>?_;refine U.q .F (.cl (tJ ..)) λU=>?_;refine bV λI a w U=>?_;refine U.q .F (.cl (tJ ..)) λU=>?_;refine bV λI a w U=>?_;refine U.q .F (.cl (G5 ..)) λU=>?_;refine bV λI a w U=>?_;refine U.q .F (.cl (G5 ..)) λU=>?_;refine E7 λI a w U=>?_;refine U.cd (λab=>?_) λab=>?_
 .rw[Cf] at ab;replace ab:=nt ab;refine aW ?_;exact bT (by unfold gN;rw[ab];rfl)
 rw[Cf] at ab;replace ab:=nf ab;obtain⟨An,vi,G6,Yc,Yd,Ye⟩:=FV ab;refine al λI a w U=>?_;refine St.lo (σ:=Nat) (run 2 2 (run 43 55 [])) ⟨λk1=>[(3,AV.int k1)],λk1=>[],λk1=>k1<=s.aQ.length/\∀i,i<k1->(qt s) i=true⟩ (λk1=>s.aQ.length-k1) 0 U ?aD ?bh;case aD=>exact⟨Nat.zero_le _,λi hi=>by omega⟩
 rintro k1 I a w aj U;obtain⟨Yf,vj⟩:=aj;refine bP λI a w U=>?_;refine cz (λah=>?_) λah=>?_
 .refine df λI a w U=>?_;refine U.o (.cl (iu ..)) λU=>?_;refine lJ λI a w U=>?_;refine U.q .F (.cl (iu ..)) λU=>?_;refine KD λI a w U=>?_;refine U.cd (λai=>?_) λai=>?_
  .rw[M0] at ai;replace ai:=nt ai;refine aW ?_;exact bT (by rw[zY,ab,fI (f:=qt s) ah ai];simp)
  rw[M0] at ai;replace ai:=nf ai;refine aI λI a w U=>?_;exact U.ag (k1+1) (⟨by omega,gf vj ai⟩)
 refine zt ?_;refine aV λI a w U=>?_;refine U.o (.cl (Of _ _ An vi)) λU=>?_;refine bV λI a w U=>?_;refine U.q .F (.cl (Of _ _ An G6)) λU=>?_;refine ax λI a w U=>?_;refine U.cd (λaG=>?_) λaG=>?_
 .refine aW ?_;exact bT (by rw[zY,ab];revert aG;cases dh s.ar.length (nO s s.ar)<;>cases dh s.waits.length (nO s s.waits)<;>simp)
 rw[Bool.or_eq_false_iff] at aG;obtain⟨HX,HY⟩:=aG;replace HX:=nf HX;replace HY:=nf HY;refine al λI a w U=>?_;refine St.lo (σ:=Nat) (2::(run 3 4 (run 40 110 []))) ⟨λk2=>[(4,AV.int k2)],λk2=>[],λk2=>k2<=s.waits.length/\∀i,i<k2->(u7 s) i=true⟩ (λk2=>s.waits.length-k2) 0 U ?eL ?jX;case eL=>exact⟨Nat.zero_le _,λi hi=>by omega⟩
 rintro k2 I a w aj U;obtain⟨xl,iW⟩:=aj;refine bP λI a w U=>?_;refine cz (λaL=>?_) λaL=>?_
 .refine zt ?_;have U:=U.dH;refine U.fV [([],none),([],none),([],none),([],none),([],none),([],none),([],none),([],none),([],none),([],none),([],none),([],none),([],none),([],none),([],none),([],none),([],none),([],none),([0],some (0,[5])),([0],some (0,[5])),([],none)] aq aq rfl ?_;refine rz ?_;refine .o (.cl (sj ..)) ?_;refine ee ?_;refine aP.alloc 0 rfl rfl bI dY<|aP.ri 0 rfl bI rfl .tt rfl rfl ?_;refine br ?_;refine .nil ?_;intro I a w U;obtain⟨b5,U⟩:=U.nv (d:=5) 0 rfl rfl;obtain⟨I,U⟩:=U.fb 0 5;refine ba<|wp_seq<|U.dk ?_;refine wg ?_;refine .q .F (.cl (pq ..)) ?_;refine cy ?_;refine .q .F (.cl (pq ..)) ?_;refine cy ?_;refine .nil ?_;intro I a w U;refine ba ?_;refine U.cd (λbc=>?_) λbc=>?_
  .rw[Od s _ vi] at bc;replace bc:=nt bc;refine aW ?_;exact bT (by rw[zY,ab,fI (f:=u7 s) aL bc];simp)
  rw[Od s _ vi] at bc;replace bc:=nf bc;refine aI λI a w U=>?_;have U:=U.drop 0;exact U.ag (k2+1) (⟨by omega,gf iW bc⟩)
 refine zt ?_;refine al λI a w U=>?_;refine St.lo (σ:=Nat) (2::(run 3 7 (run 27 150 []))) ⟨λk3=>[(7,AV.int k3)],λk3=>[],λk3=>k3<=s.aE.length/\∀i,i<k3->(qG s) i=true⟩ (λk3=>s.aE.length-k3) 0 U ?iA ?oL;case iA=>exact⟨Nat.zero_le _,λi hi=>by omega⟩
 rintro k3 I a w aj U;obtain⟨N7,tF⟩:=aj;refine bP λI a w U=>?_;refine cz (λaY=>?_) λaY=>?_
 .refine zt ?_;have U:=U.dH;refine U.fV [([],none),([],none),([],none),([],none),([],none),([],none),([],none),([],none),([],none),([],none),([],none),([],none),([],none),([],none),([],none),([],none),([],none),([],none),([0],some (0,[8])),([0],some (0,[8])),([],none)] aq aq rfl ?_;refine rz ?_;refine .o (.cl (sj ..)) ?_;refine ee ?_;refine aP.alloc 0 rfl rfl bI dY<|aP.ri 0 rfl bI rfl .tt rfl rfl ?_;refine br ?_;refine .nil ?_;intro I a w U;obtain⟨b8,U⟩:=U.nv (d:=8) 0 rfl rfl;obtain⟨I,U⟩:=U.fb 0 8;refine ax λI a w U=>?_;refine U.cd (λbz=>?_) λbz=>?_
  .rw[Oe s _ vi] at bz;replace bz:=nt bz;refine aW ?_;exact bT (by rw[zY,ab,fI (f:=qG s) aY bz];simp)
  rw[Oe s _ vi] at bz;replace bz:=nf bz;refine aI λI a w U=>?_;have U:=U.drop 0;exact U.ag (k3+1) (⟨by omega,gf tF bz⟩)
 refine zt ?_;refine aW ?_;exact bT (by rw[zY,ab,fD vj om,HX,HY,fD iW om,fD tF om];rfl)
def lD (s:Server):List az:=if s.up then(leaving s).map (λi:Nat=>gE s (i:Int))++(s.aE.map (jY s)).flatten++(zQ s).map (lQ s) else[]
def fY (w:aM) (e:Ev):aM×Bool:=
 let s:=ae w.aF e.at_.toNat
 if e.kind=7 then({w with aF:=w.aF.set e.at_.toNat (py s)},!s.up)
 else if e.kind=6 then({w with aF:=w.aF.set e.at_.toNat (px s)},s.up)
 else if e.kind=8 then({w with aC:=fe w.aC (lD s)},s.up)
 else if mn s e.slot then({w with aF:=w.aF.set e.at_.toNat (pA s e.slot),aC:=fe w.aC [gE (pA s e.slot) e.slot]},true) else(w,false)
def aaP {q:Call} {time:Int} (h:lR q time=true):q.au.length<=3/\q.aO.length<=6:=by
 simp only[lR,oN,Bool.and_eq_true] at h;have hk:iz q=true:=h.1.1.1.1.1.1.2;have hd:ck q.aO=true:=h.1.1.1.2;have hg:m5 q=true:=h.2.1.1;have h3:q.keys.length<=3:=by
  unfold iz at hk;rw[Bool.and_eq_true] at hk;have:=hk.2;simp[aS] at this;omega
 have Dr:kf q.keys=true:=by unfold iz at hk;rw[Bool.and_eq_true] at hk;exact hk.1
 have:=HW Dr hg;exact⟨by omega,gU hd⟩
def HZ (s:Server) (key:Int) (aj:gN s=true):
 Fn prog 332 [s.av,AV.int key] (AV.bool (fR s key)):=by
 refine Fn.go 21 func332 ntmps332 (λW I a U=>?_);have hp:=zy aj;refine ax λI a w U=>?_;refine U.dk ?_;refine br ?_;refine .o (.c1 (tO ..)) ?_;refine cy ?_;refine .q .T (.cl (s9 ..)) ?_;refine fQ ?_;refine .q .T (.cl (ta ..)) ?_;refine .q .T ((by first|exact fT eM dP .ag .ag (λhg=>by have:=GK hg;omega)|exact iO eM dP .ag .ag (λhg=>by have:=GK hg;omega)|exact iZ eM dP .ag .ag (λhg=>by have:=GK hg;omega))) ?_;refine fQ ?_;refine .nil ?_;intro I a w U;refine zt ?_;refine U.rt ?_;exact bT (by rw[aj];rfl)
def H4 {s:Server} (h:bE s) {slot:Int} (h0:0<=slot) (h2:slot<=2):bY (gE s slot)=true:=by
 have hr:=Xe h (i:=slot.toNat) om;exact sd ⟨by simp[gE],by simp[gE]⟩ (oH h.site) (oH (Ol h.site)) ⟨by simp[gE,cg],by simp[gE,cg]⟩ GN Af ⟨by simp[gE,cg],by simp[gE,cg]⟩ qI ⟨h0,h2⟩ hr (zB h.ar List.filter_sublist) (zB h.waits List.filter_sublist) (B1 h.aE List.filter_sublist)
def aaQ {s:Server} (h:bE s) {d:ao} (hd:kt d=true):bY (lQ s d)=true:=by
 simp only[kt,Bool.and_eq_true] at hd;exact sd ⟨by simp[lQ],by simp[lQ]⟩ (oH h.site) (oH (Ol h.site)) ⟨by simp[lQ,cg],by simp[lQ,cg]⟩ hd.1 (Ae hd.2) ⟨by simp[lQ,cg],by simp[lQ,cg]⟩ qI ⟨by simp[lQ,cg],by simp[lQ,cg]⟩ ⟨by simp[lQ,cg],by simp[lQ,cg]⟩ oI oI ve
def H5 {s:Server} (h:bE s):∀w∈lD s,bY w=true:=by
 unfold lD;split
 .intro w hw;rcases List.mem_append.1 hw with hw|hw
  .rcases List.mem_append.1 hw with hw|hw
   .obtain⟨i,hi,rfl⟩:=List.mem_map.1 hw;have:=Xf h hi;exact H4 h om om
   obtain⟨ws,h1,h2⟩:=List.mem_flatten.1 hw;obtain⟨d,_,rfl⟩:=List.mem_map.1 h1;exact YN h w h2
  obtain⟨d,hd,rfl⟩:=List.mem_map.1 hw;exact aaQ h (YO h d hd)
 intro w hw;simp at hw
def aaR {w:aM} (h:cF w) (e:Ev) (ha:de e.at_=true):cF (fY w e).1:=by
 rw[mu] at ha;have hi:e.at_.toNat<4:=by omega
 obtain⟨_,U⟩:=h.site _ hi;unfold fY;dsimp only;split
 .exact h.server hi (Vi U) rfl
 split
 .exact h.server hi (Vj U) rfl
 split
 .exact h.send (H5 U)
 split
 .rename_i hk;have hp:=zL hk;have hg:=C2 U hk;exact(h.server hi hg rfl).send λm hm=>by
   obtain rfl:m=_:=by simpa using hm
   exact H4 hg hp.2.1 hp.2.2.1
 exact h
def aaS (s:Server) (aj:gN s=true):
 Fn prog 276 [s.av] ((py s).av):=by
 refine Fn.go 12 func276 ntmps276 (λW I a U=>?_);have hp:=zy aj;refine aX λI a w U=>?_;refine U.alloc rfl bL di λb2 I a w U=>?_;refine aX λI a w U=>?_;refine U.o (.c1 (tO ..)) λU=>?_;refine al λI a w U=>?_;refine U.cd (λab=>?_) λab=>?_
 .exfalso;rw[aj] at ab;cases ab;skip
 refine aX λI a w U=>?_;refine U.o (bx (zR s (by have:=s8 hp.2.1;have:=s8 hp.2.2.1;exact(F4 aj).small (by have:=hP hp.2.2.2.1;omega))) (an (.t rfl) aH)) λU=>?_;refine U.alloc rfl bL di λb3 I a w U=>?_;refine bP λI a w U=>?_;refine U.ret rfl (.cons (.sx 0) aZ.nil) ?_;rfl
def aaT (s:Server) (aj:gN s=true):
 Fn prog 277 [s.av] ((px s).av):=by
 refine Fn.go 14 func277 ntmps277 (λW I a U=>?_);have hp:=zy aj;refine aX λI a w U=>?_;refine U.alloc rfl bL di λb2 I a w U=>?_;refine aX λI a w U=>?_;refine U.o (.c1 (tO ..)) λU=>?_;refine al λI a w U=>?_;refine U.cd (λab=>?_) λab=>?_
 .exfalso;rw[aj] at ab;cases ab;skip
 refine aX λI a w U=>?_;refine U.o (bx (zR s (by have:=s8 hp.2.1;have:=s8 hp.2.2.1;exact(F4 aj).small (by have:=hP hp.2.2.2.1;omega))) (an (.t rfl) aH)) λU=>?_;refine U.alloc rfl bL di λb3 I a w U=>?_;refine aI λI a w U=>?_;refine U.l0 λoF I a w U=>?_;obtain⟨I,U⟩:=U.fr 2 11;refine aU λI a w U=>?_;refine U.ret rfl (.cons (.sx 0) aZ.nil) ?_;rfl
def Ds (s:Server) (m:az) {i j k:Nat} (hi:m.ar.length<=i) (hj:m.waits.length<=j) (hk:m.aE.length<=k):vo s m i j k=si s m:=by
 unfold vo si;rw[List.take_of_length_le hi,List.take_of_length_le hj,List.take_of_length_le hk]
def aaU {l ds:List ao} {k:Nat} (hn:l.length+ds.length<=80) (hk:k<ds.length):Fn prog 336 [bm ((ds.take k).foldl eN l),(ae ds k).av] (bm ((ds.take (k+1)).foldl eN l)):=by
 have h2:=OX l ds k;have:=G9 ((ds.take k).foldl eN l) (ae ds k) om;rwa[<-Nd hk] at this
def m7 (s:Server) (l:List ao):List az:=ic s s.aE.length++l.map (lQ s)
def PA (s:Server) (l:List ao) (d:ao):m7 s l++[lQ s d]=m7 s (l++[d]):=by unfold m7;simp
def H6 {s:Server} (hu:s.up=true) (h3:s.aQ.length=3):m7 s (zQ s)=lD s:=by
 unfold m7 ic nT lD;rw[hu,if_pos rfl,List.take_length,<-h3,YA]
def PB {s:Server} (hg:bE s):(lD s).length<=1000:=by
 by_cases hu:s.up=true
 .have h1:=xo s s.aE.length (Nat.le_refl _);have h2:=hP hg.aE;have h3:=w5 (s:=s) (λv hv=>gU (kT (g7 hg.waits v hv)).2.2) s.waits.length (Nat.le_refl _);have h4:=gV hg.waits;rw[Gm s (Nat.le_refl _)] at h3;rw[<-H6 hu hg.aQ];unfold m7;rw[List.length_append,List.length_map];omega
 unfold lD;rw[if_neg hu];simp
def PC {s:Server} (hu:s.up=false):lD s=[]:=by unfold lD;rw[hu];rfl
def PD {s:Server} {k:Nat} (h:k=s.aE.length):ic s k=m7 s (mr s 0):=by
 subst h;unfold m7;rw[show mr s 0=[] from rfl];simp
def aaV (s:Server) (m:az) (hg:bE s) (hm:bY m=true) (ho:(de m.bj&&(cv m.bj !=cv s.site))=true):
 Fn prog 344 [s.av,m.av] (AV.c8 [(ia s m).1.av,dW (ia s m).2]):=by
 refine Fn.go 76 func344 ntmps344 (λW I a U=>?_);have aj:=iU.2 hg;have c6:=hg.ok;have hZ:=hg.small;have ki:=nK hm;have lens:m.aK.length<=9223372036854775807/\m.ar.length<=9223372036854775807/\m.waits.length<=9223372036854775807/\m.aE.length<=9223372036854775807:=⟨U.ln 1 9,U.ln 1 12,U.ln 1 13,U.ln 1 14⟩;have h3:=hg.aQ;refine aA λI a w U=>?_;refine U.alloc rfl bL di λb4 I a w U=>?_;refine al λI a w U=>?_;refine U.dk ?_;refine kz ?_;refine .q .F (fT (i:=0) du bI .ag .c (λhg=>by simp at hg;omega)) ?_;refine cy ?_;refine .q .F (.cl (wP s (ae m.ar 0).key h3)) ?_;refine gS ?_;refine .q .F (fT (i:=0) du bI .ag .c (λhg=>by simp at hg;omega)) ?_;refine br ?_;refine .q .F (.cl (GG ..)) ?_;refine cy ?_;refine .nil ?_;intro I a w U;refine ba ?_;refine U.cd (λab=>?_) λab=>?_
 .rw[Ng ho] at ab;replace ab:=nt ab;refine aI λI a w U=>?_;refine U.ret rfl (.cons (.sx 0) (.cons (.nil (sz:=15) rfl) aZ.nil)) ?_;exact(by unfold ia;rw[ab];rfl)
 rw[Ng ho] at ab;replace ab:=nf ab;refine aA λI a w U=>?_;refine U.o (fT (i:=0) du bI .tt .c (λ_=>by have:=(Cv ab).2.2.1;omega)) λU=>?_;refine U.o .la λU=>?_;refine U.alloc rfl bI dY λb6 I a w U=>?_;refine al λI a w U=>?_;obtain⟨I,U⟩:=U.fb 1 6;refine U.o .la λU=>?_;refine U.o (.c1 (rR s hZ)) λU=>U.alloc rfl bL di λb7 I a w U=>?_;refine al λI a w U=>?_;refine U.dk ?_;refine ee ?_;refine .o (.c1 (nB ..)) ?_;refine .o (.cl (qp ..)) ?_;refine fQ ?_;refine .q .T (.cl (nB ..)) ?_;refine .q .T (.cl (qp ..)) ?_;refine cy ?_;refine .nil ?_;intro I a w U;refine ba ?_;refine uz (λah=>?_) λah=>?_
 .refine aV λI a w U=>?_;refine U.o (.cl (On _ _ c6.waits)) λU=>?_;refine fW λI a w U=>?_;refine cz (λai=>?_) λai=>?_
  .refine aI λI a w U=>?_;refine U.ret rfl (.cons (.sx 0) (.cons (.nil (sz:=15) rfl) aZ.nil)) ?_;exact(by unfold ia;rw[ab,if_pos rfl];dsimp only;rw[if_pos ah,ai];rfl)
  refine aI λI a w U=>?_;rw[if_pos ai] at U;refine U.dt 10 ?_;simp only[TD];refine br ?_;refine .o (.c1 (xi {s with waits:=fF s.waits (ae m.ar 0)} (c6.Gg ai ah.1) (hP hg.aE))) ?_;refine gS ?_;refine .o (.bd dN (.k (.k (.t bf.nil)))) ?_;refine .o (.c3 (se s m ⟨6,0,0,0,(ae m.ar 0).key,(ae m.ar 0).aw,0,false,[],0,0,[],[],[]⟩ (vf ..)))<|.nil ?_;intro I a w U;refine ax λI a w U=>?_;refine U.ret rfl (.cons (.sx 0) (.cons .x aZ.nil)) ?_;exact(by unfold ia;rw[ab,if_pos rfl];dsimp only;rw[if_pos ah,ai];rfl)
 rw[<-Bool.not_eq_true] at ah;simp only[B] at ah;refine zt ?_;refine U.dt 10 ?_;simp only[TD];refine br ?_;refine .o (.c1 (xi s c6 (hP hg.aE))) ?_;refine gS ?_;refine .o (.bd dN (.k (.k (.t bf.nil)))) ?_;refine .o (.c3 (se s m ⟨6,0,0,0,(ae m.ar 0).key,(ae m.ar 0).aw,0,false,[],0,0,[],[],[]⟩ (vf ..)))<|.nil ?_;intro I a w U;refine ax λI a w U=>?_;refine U.ret rfl (.cons (.sx 0) (.cons .x aZ.nil)) ?_;exact(by unfold ia;rw[ab,if_pos rfl];dsimp only;rw[if_neg ah];rfl)
def aaW (x:aM) (h:C1 x):
 bG prog 64 [x.av] [] (λ_=>True) x.MJ x.Vo:=by
 refine bG.intro 62 func64 rfl ntmps64 rfl aq (λW I a U=>?_);obtain⟨⟨h1,h2⟩,⟨h3,h4⟩,⟨h5,h6⟩,h7,h8⟩:=h;have U:=U.en (sz:=7) 95;have U:=U.en (sz:=13) 45;have U:=U.en (sz:=1) 40;refine aX λI a w U=>?_;refine U.alloc rfl dz dT λb2 I a w U=>?_;refine zt ?_;have U:=U.dH;have U:=U.dH;have U:=U.dH;refine U.ET 7 _ (rp 4 [([5],some (5,[14])),([6],some (6,[15,14])),([4],some (4,[3]))]) rfl aq aq rfl ?_;simp only[TD];refine ef ?_;refine aP.gh 5 rfl rfl (W9 x.aC h3 h4) (an .r aH) ?_;refine aP.Bx 6 [14] (λa=>AV.agg [AV.int x.time,AV.val (.slice none 0 0),AV.val (a.tmps.getD 14 undef),AV.val (.slice none 0 0),AV.val (.slice none 0 0)]) rfl rfl rfl rfl (λa b h=>by simp only[List.forall_mem_cons] at h;simp only[h]) rfl (λF a I he=>Ok.to (.bd ny (.k (bf.c KG rfl .tt (rC (t:=14) he) bf.nil)))) ?_;refine aP.alloc 4 rfl rfl dz dT<|.nil ?_;intro I a w U;obtain⟨b3,U⟩:=U.nv (d:=3) 4 rfl rfl;change St _ _ [Own.row (.slice none 0 0) 95 7 [],Own.row (.slice none 0 0) 45 13 [],Own.row (.slice none 0 0) 40 1 [],Own.box b2 28 [AV.val (.int .i64 0),AV.rows 7 [],AV.rows 15 [],AV.rows 13 [],AV.rows 1 []],Own.box b3 28 _,Own.row (a.tmps.getD 14 undef) 108 15 (x.aC.map az.cells),Own.is (AV.agg [AV.int x.time,AV.val (.slice none 0 0),AV.val (a.tmps.getD 14 undef),AV.val (.slice none 0 0),AV.val (.slice none 0 0)]) (a.tmps.getD 15 undef)] _ _ _ at U;have U:=U.rD (d:=15) 6 rfl;have U:=U.drop 6;generalize a.tmps.getD 14 undef=gX at U;show wpList _ _ _ _ _ _;refine bP λI a w U=>?_;refine St.lo (σ:=Nat×Value) (5::(run 12 19 [])) ⟨λ⟨k,p⟩=>[(19,AV.int k)],λ⟨k,p⟩=>[Own.row p 95 7 ((x.aF.take k).map Server.cells),Own.row (.slice none 0 0) 45 13 ([]),Own.row (.slice none 0 0) 40 1 ([]),Own.box b2 28 [AV.val (.int .i64 0),AV.rows 7 [],AV.rows 15 [],AV.rows 13 [],AV.rows 1 []],Own.box b3 28 [AV.int x.time,AV.val p,AV.val gX,AV.val (.slice none 0 0),AV.val (.slice none 0 0)],Own.row gX 108 15 (x.aC.map az.cells)],λ⟨k,p⟩=>k<=x.aF.length⟩ (λ⟨k,p⟩=>x.aF.length-k) (0,(.slice none 0 0)) U ?aD ?bh;case aD=>exact Nat.zero_le _
 rintro⟨k,p⟩ I a w aj U;have hk:k<=x.aF.length:=aj;dsimp only at U;refine al λI a w U=>?_;refine cz (λab=>?_) λab=>?_
 .refine aA λI a w U=>?_;refine U.alloc rfl bL di λb5 I a w U=>?_;refine al λI a w U=>?_;obtain⟨I,U⟩:=U.fb 6 5;refine U.dt 5 ?_;simp only[TD];refine ee ?_;refine .o (.c1 (rR _ (h2 _ (bK ab)))) ?_;refine .o (.li [(ae x.aF k).cells] wk (.u .nil)) ?_;refine .nil ?_;intro I a w U;refine U.ap 0 λuY a w U=>?_;rw[cA,<-ep ab] at U;refine U.o .fv λU=>?_;try have Pu:=U.cU 0 rfl
  refine aI λI a w U=>?_;have U:=U.drop 6;exact U.ag (k+1,uY) (ab)
 refine wp_exit<|bU<|bU<|eb<|ba<|wp_seq<|wp_seq ?_;rw[List.take_of_length_le om] at U;refine aU λI a w U=>?_;refine St.lo (σ:=Nat×Value) (7::(run 12 34 [])) ⟨λ⟨k,q⟩=>[(34,AV.int k)],λ⟨k,q⟩=>[Own.row p 95 7 (x.aF.map Server.cells),Own.row q 45 13 ((x.calls.take k).map Call.cells),Own.row (.slice none 0 0) 40 1 ([]),Own.box b2 28 [AV.val (.int .i64 0),AV.rows 7 [],AV.rows 15 [],AV.rows 13 [],AV.rows 1 []],Own.box b3 28 [AV.int x.time,AV.val p,AV.val gX,AV.val q,AV.val (.slice none 0 0)],Own.row gX 108 15 (x.aC.map az.cells)],λ⟨k,q⟩=>k<=x.calls.length⟩ (λ⟨k,q⟩=>x.calls.length-k) (0,(.slice none 0 0)) U ?eL ?jX;case eL=>exact Nat.zero_le _
 rintro⟨k,q⟩ I a w aj U;have hk:k<=x.calls.length:=aj;dsimp only at U;refine al λI a w U=>?_;refine cz (λah=>?_) λah=>?_
 .refine aA λI a w U=>?_;refine U.alloc rfl dm g0 λb7 I a w U=>?_;refine al λI a w U=>?_;obtain⟨I,U⟩:=U.fb 6 7;refine U.dt 5 ?_;simp only[TD];refine ee ?_;refine .o (.c1 (Ov _ (h6 _ (bK ah)))) ?_;refine .o (.li [(ae x.calls k).cells] yT (.u .nil)) ?_;refine .nil ?_;intro I a w U;refine U.ap 1 λtM a w U=>?_;rw[cA,<-ep ah] at U;refine U.o .fv λU=>?_;try have HP:=U.cU 1 rfl
  refine aI λI a w U=>?_;have U:=U.drop 6;exact U.ag (k+1,tM) (ah)
 refine wp_exit<|bU<|bU<|eb<|ba<|wp_seq<|wp_seq ?_;rw[List.take_of_length_le om] at U;refine aU λI a w U=>?_;refine St.lo (σ:=Nat×Value) (9::(run 12 49 [])) ⟨λ⟨k,r⟩=>[(49,AV.int k)],λ⟨k,r⟩=>[Own.row p 95 7 (x.aF.map Server.cells),Own.row q 45 13 (x.calls.map Call.cells),Own.row r 40 1 ((x.seen.take k).map fh),Own.box b2 28 [AV.val (.int .i64 0),AV.rows 7 [],AV.rows 15 [],AV.rows 13 [],AV.rows 1 []],Own.box b3 28 [AV.int x.time,AV.val p,AV.val gX,AV.val q,AV.val r],Own.row gX 108 15 (x.aC.map az.cells)],λ⟨k,r⟩=>k<=x.seen.length⟩ (λ⟨k,r⟩=>x.seen.length-k) (0,(.slice none 0 0)) U ?iA ?oL;case iA=>exact Nat.zero_le _
 rintro⟨k,r⟩ I a w aj U;have hk:k<=x.seen.length:=aj;dsimp only at U;refine al λI a w U=>?_;refine cz (λai=>?_) λai=>?_
 .refine aI λI a w U=>?_;refine U.dt 5 ?_;simp only[TD];refine ee ?_;refine .o (.cl (rK _ (h8 _ (bK ai)))) ?_;refine .o (.li [fh (ae x.seen k)] Bv (.v .nil)) ?_;refine .nil ?_;intro I a w U;refine U.ap 2 λDm a w U=>?_;rw[cA,<-ep ai] at U;refine U.o .fv λU=>?_;try have aaj:=U.cU 2 rfl
  refine aI λI a w U=>?_;exact U.ag (k+1,Dm) (ai)
 refine wp_exit<|bU<|bU<|eb<|ba<|wp_seq ?_;rw[List.take_of_length_le om] at U;refine ax λI a w U=>?_;exact U.cE (p,gX,q,r) [0,5,1,2] rfl (.cons (.s 3 dz rfl rfl (by first|rfl|assumption)) .nil) trivial rfl rfl
def aaX (l:List (List ao)) (h:qR l<=1048576):
 bG prog 106 [lG l] [] (λp:Value×List DT=>p.2.map DT.x=l) (λp=>[Own.seen KK p.1 p.2]) (λp=>AV.val p.1):=by
 refine bG.intro 23 func106 rfl ntmps106 rfl aq (λW I a U=>?_);have hl:l.length<=1048576:=by unfold qR at h;omega
 refine aV λI a w U=>?_;refine U.make rfl pb iH KE rfl .tt .tt om λb7 a w U=>?_;have U:=U.mO;change St _ _ [Own.row (.slice (some ⟨b7,0,none⟩) l.length l.length) KK.seen 1 (([]:List DT).map DT.cells++List.replicate (l.length-([]:List DT).length) [AV.rows 3 []]),Own.many (([]:List DT).map λx=>Own.many (DT.owns KK x))] _ _ _ at U;refine ax λI a w U=>?_;refine St.lo (σ:=List DT) (4::(run 14 8 [])) ⟨λts=>[(4,AV.int (ts.length:Nat))],λts=>[Own.row (.slice (some ⟨b7,0,none⟩) l.length l.length) KK.seen 1 (ts.map DT.cells++List.replicate (l.length-ts.length) [AV.rows 3 []]),Own.many (ts.map λx=>Own.many (DT.owns KK x))],λts=>ts.map DT.x=l.take ts.length/\ts.length<=l.length⟩ (λts=>l.length-ts.length) [] U ?aD ?bh;case aD=>exact⟨by simp,Nat.zero_le _⟩
 rintro ts I a w aj U;obtain⟨ig,hk⟩:=aj;dsimp only at U;refine aU λI a w U=>?_;refine cz (λab=>?_) λab=>?_
 .refine aR λI a w U=>?_;refine U.o ((by first|exact fT Fl Fb .tt .tt (λ_=>by first|omega|(simp only[List.length_append,List.length_map,List.length_replicate];omega))|exact iO Fl Fb .tt .tt (λ_=>by first|omega|(simp only[List.length_append,List.length_map,List.length_replicate];omega))|exact iZ Fl Fb .tt .tt (λ_=>by first|omega|(simp only[List.length_append,List.length_map,List.length_replicate];omega)))) λU=>?_;refine U.o .l1 λU=>?_;refine U.gh (tE (ae l ts.length) (by have:=va (f:=jl) ab;unfold qR at h;omega)) (an .r aH) rfl λI v20 a w U=>?_;refine U.o (cw 0 pb iH .tt .tt rfl (λ_=>by first|omega|(simp only[List.length_append,List.length_map,List.length_replicate];omega))) λU=>?_;have Pz:=U.cU 2 rfl;refine U.TW 0 iH .tt .tt (by first|exact cL rfl|exact cN|exact cO|exact cP|assumption) rfl (by simp only[List.length_append,List.length_map,List.length_replicate];omega) rfl λa w U=>?_;refine aX λI a w U=>?_;refine U.o (cr .tt .c (λ_=>by first|omega|(simp only[List.length_append,List.length_map,List.length_replicate];omega))) λU=>?_;refine al λI a w U=>?_;have U:=St.wC (m:=l.length-(ts++[(⟨ae l ts.length,v20⟩:DT)]).length) (⟨ae l ts.length,v20⟩:DT) U ff rfl rfl;refine U.again (ts++[(⟨ae l ts.length,v20⟩:DT)]) ?bM ?bN bF ?bO (by repeat(first|exact Env.le_rfl|refine Env.dj rfl ?_));case bM=>simp;omega
  case bN=>exact nz ⟨ig,hk⟩ ab rfl
  case bO=>exact(Env.bt rfl (by exact congrArg AV.int be) Env.le_nil)
 refine zt ?_;refine ax λI a w U=>?_;have U:=U.wD om;have aT:=nA ⟨ig,hk⟩ om;refine U.cE (_,ts) [0] rfl (.cons (.t rfl) .nil) aT rfl rfl
def pT (x:aM):
 Fn prog 41 [x.av,x.av] (AV.bool true):=by
 refine Fn.go 34 func41 ntmps41 (λW I a U=>?_);refine et λI a w U=>?_;refine U.cd (λab=>?_) λab=>?_
 .exfalso;simp at ab;skip
 refine aR λI a w U=>?_;refine U.o (.cl (XT ..)) λU=>?_;refine al λI a w U=>?_;refine U.cd (λah=>?_) λah=>?_
 .exfalso;simp at ah;skip
 refine aR λI a w U=>?_;refine U.o (.cl (Vr ..)) λU=>?_;refine al λI a w U=>?_;refine U.cd (λai=>?_) λai=>?_
 .exfalso;simp at ai;skip
 refine aR λI a w U=>?_;refine U.o (.cl (Zz ..)) λU=>?_;refine al λI a w U=>?_;refine U.cd (λaG=>?_) λaG=>?_
 .exfalso;simp at aG;skip
 refine aR λI a w U=>?_;refine U.o (.cl (Vu ..)) λU=>?_;refine al λI a w U=>?_;refine U.cd (λaL=>?_) λaL=>?_
 .exfalso;simp at aL;skip
 refine aW ?_;rfl
def aaY {w:aM} {e:Ev} (h:e.kind=7):fY w e=({w with aF:=w.aF.set e.at_.toNat (py (ae w.aF e.at_.toNat))},!(ae w.aF e.at_.toNat).up):=by unfold fY;rw[if_pos h]
def aaZ {w:aM} {e:Ev} (h:e.kind=6):fY w e=({w with aF:=w.aF.set e.at_.toNat (px (ae w.aF e.at_.toNat))},(ae w.aF e.at_.toNat).up):=by unfold fY;rw[if_neg om,if_pos h]
def aa0 {w:aM} {e:Ev} (h:e.kind=8):fY w e=({w with aC:=fe w.aC (lD (ae w.aF e.at_.toNat))},(ae w.aF e.at_.toNat).up):=by unfold fY;rw[if_neg om,if_neg om,if_pos h]
def aa1 {w:aM} {e:Ev} (h7:¬e.kind=7) (h6:¬e.kind=6) (h8:¬e.kind=8) (hm:(eF (ae w.aF e.at_.toNat) e.slot).2.2=true):fY w e=({w with aF:=w.aF.set e.at_.toNat (eF (ae w.aF e.at_.toNat) e.slot).1,aC:=fe w.aC [(eF (ae w.aF e.at_.toNat) e.slot).2.1]},(eF (ae w.aF e.at_.toNat) e.slot).2.2):=by
 unfold fY;rw[if_neg h7,if_neg h6,if_neg h8,if_pos (C5 hm),Hs (C5 hm)]
def aa2 {w:aM} {e:Ev} (h7:¬e.kind=7) (h6:¬e.kind=6) (h8:¬e.kind=8) (hm:(eF (ae w.aF e.at_.toNat) e.slot).2.2=false):fY w e=({w with aF:=w.aF.set e.at_.toNat (eF (ae w.aF e.at_.toNat) e.slot).1},(eF (ae w.aF e.at_.toNat) e.slot).2.2):=by
 unfold fY;rw[if_neg h7,if_neg h6,if_neg h8,if_neg (by rw[Hr hm];simp),Y6 (Hr hm),VE]
def aa3 {x:aM} {e:Ev} (h:((ae x.aF e.at_.toNat).up==(e.kind==7))=true):(fY x e).2=false:=by
 unfold fY;dsimp only;by_cases h7:e.kind=7
 .rw[if_pos h7];rw[h7] at h;simpa using h
 have hu:(ae x.aF e.at_.toNat).up=false:=by rw[show(e.kind==7)=false by simpa using h7] at h;simpa using h
 rw[if_neg h7];split
 .exact hu
 split
 .exact hu
 rw[show mn (ae x.aF e.at_.toNat) e.slot=false by unfold mn;rw[hu];rfl];rfl
def aa4 {x:aM} {e:Ev} (h:((ae x.aF e.at_.toNat).up==(e.kind==7))=false) (hk:e.kind=6):fY x e=({x with aF:=x.aF.set e.at_.toNat (px (ae x.aF e.at_.toNat))},true):=by
 unfold fY;dsimp only;rw[if_neg om,if_pos hk,MR h om]
def aa5 {x:aM} {e:Ev} (h:((ae x.aF e.at_.toNat).up==(e.kind==7))=false) (hk:e.kind=7):fY x e=({x with aF:=x.aF.set e.at_.toNat (py (ae x.aF e.at_.toNat))},true):=by
 unfold fY;dsimp only;rw[if_pos hk,Wo h hk];rfl
def aa6 {x:aM} {e:Ev} (h:((ae x.aF e.at_.toNat).up==(e.kind==7))=false) (hk:e.kind=8):fY x e=({x with aC:=fe x.aC (lD (ae x.aF e.at_.toNat))},true):=by
 unfold fY;dsimp only;rw[if_neg om,if_neg om,if_pos hk,MR h om]
def aa7 {x:aM} {e:Ev} (hk:e.kind=9) (hm:(eF (ae x.aF e.at_.toNat) e.slot).2.2=true):fY x e=({x with aF:=x.aF.set e.at_.toNat (eF (ae x.aF e.at_.toNat) e.slot).1,aC:=fe x.aC [(eF (ae x.aF e.at_.toNat) e.slot).2.1]},true):=by
 have h:=C5 hm;rw[Hs h];unfold fY;dsimp only;rw[if_neg om,if_neg om,if_neg om,if_pos h]
def aa8 {x:aM} {e:Ev} (hk:e.kind=9) (hm:(eF (ae x.aF e.at_.toNat) e.slot).2.2=false):fY x e=(x,false):=by
 unfold fY;dsimp only;rw[if_neg om,if_neg om,if_neg om,if_neg (by rw[Hr hm];simp)]
def aa9 {s:Server} {slot:Int} (hg:bE s) (hm:(eF s slot).2.2=true):∀y∈[(eF s slot).2.1],iV y:=by
 have h:=C5 hm;have hp:=zL h;intro y hy;obtain rfl:=List.mem_singleton.1 hy;rw[Hs h];exact vm (H4 (C2 hg h) hp.2.1 hp.2.2.1)
end Go.Proofs.YtldbakcpcfdlaaaGreat
