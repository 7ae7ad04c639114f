/- Part 37: contracts of functions, plain facts. -/
import Derived.Test.YtdanidpleofjgaaGreatP30
set_option linter.all false
set_option maxRecDepth 100000
set_option maxHeartbeats 4000000
namespace Go.Proofs.YtdanidpleofjgaaGreat
open Go Go.RowKit Tryz
attribute [local irreducible] wpList Code.wp Ok
def Kw {s:Server} {m:ax} (h:bG s) (hm:bI m=true) (hu:s.up=true):bG (cJ s m).1:=by
 unfold cJ;repeat' split
 .exact adw h hm
 .exact h
 .exact ab8 h
 .exact Sm h
 .exact h
 .exact adp h hu
 .exact adM h
 .exact ab9 h hm
 exact h
def aef (s:Server) (m:ax) (an:ij s=true):
 Fn prog 185 [s.av,m.av] (dR (gN s m)):=by
 refine Fn.go 68 func185 ntmps185 (λW I a U=>?_);have hp:=Ca an;refine cj λI a w U=>?_;refine U.o (.c1 (BA ..)) λU=>?_;refine va λI a w U=>?_;refine U.q .F (.cl (Ki _ _ an)) λU=>?_;refine aF λI a w U=>?_;refine U.cd (λae=>?_) λae=>?_
 .rw[Fs s m] at ae;replace ae:=nt ae;refine zt ?_;refine U.l0 λb24 I a w U=>?_;refine aB λI a w U=>?_;obtain⟨I,U⟩:=U.fr 0 4;refine U.rt ?_;exact(by unfold gN;rw[ae];rfl)
 rw[Fs s m] at ae;replace ae:=nf ae;refine bB λI a w U=>?_;refine U.o (.cl (Si _ _ hp.2.1)) λU=>?_;refine bm λI a w U=>?_;refine U.alloc rfl bQ dO λb5 I a w U=>?_;refine bB λI a w U=>?_;refine U.o (.bd ke bc.nil) λU=>?_;refine U.o (wH [_,_] [_,_] nU rfl rfl .tt .tt) λU=>?_;refine zt ?_;refine U.cd (λah=>?_) λah=>?_
 .rw[Ey m.aq] at ah;replace ah:=nt ah;refine ee λI a w U=>?_;refine U.o (.cl (ug ..)) λU=>?_;refine jD λI a w U=>?_;refine U.cd (λar=>?_) λar=>?_
  .refine zt ?_;refine U.l0 λb49 I a w U=>?_;refine aB λI a w U=>?_;obtain⟨I,U⟩:=U.fr 1 4;refine U.rt ?_;exact(by unfold gN;rw[ae,if_pos rfl,ah,if_neg bk];rw[BS hp.2.1] at ar;rw[BM ar];rfl)
  refine yI λI a w U=>?_;refine U.o (.bd eI (.k (.k (.k (.k (.k (.t (.k bc.nil)))))))) λU=>?_;refine U.alloc rfl dI eI λb7 I a w U=>?_;refine aF λI a w U=>?_;refine U.cd (λaM=>?_) λaM=>?_
  .refine bK λI a w U=>?_;refine U.o (.li [_] lX (.u .nil)) λU=>?_;refine bm λI a w U=>?_;refine U.o (.li [_] ir (.u .nil)) λU=>?_;refine bh ?_;exact(by unfold gN;rw[ae,if_pos rfl,ah,if_neg bk];rw[BS hp.2.1] at aM⊢;obtain⟨v,hv⟩:=Option.isSome_iff_exists.1 aM;rw[hv];rfl)
  refine bK λI a w U=>?_;refine U.o (.li [_] ir (.u .nil)) λU=>?_;refine bh ?_;exact(by simp only[B] at ar;rw[ar] at aM;cases aM)
 rw[Ey m.aq] at ah;replace ah:=nf ah;refine yI λI a w U=>?_;refine U.o (.bd eI (.k (.k (.k (.k (.k (.t (.k bc.nil)))))))) λU=>?_;refine U.alloc rfl dI eI λb7 I a w U=>?_;refine aF λI a w U=>?_;refine U.cd (λaP=>?_) λaP=>?_
 .refine bK λI a w U=>?_;refine U.o (.li [_] lX (.u .nil)) λU=>?_;refine bm λI a w U=>?_;refine U.o (.li [_] ir (.u .nil)) λU=>?_;refine bh ?_;exact(by unfold gN;rw[ae,if_pos rfl,ah,if_pos rfl];obtain⟨v,hv⟩:=Option.isSome_iff_exists.1 aP;unfold lM;rw[hv];rfl)
 refine bK λI a w U=>?_;refine U.o (.li [_] ir (.u .nil)) λU=>?_;refine bh ?_;exact(by unfold gN;rw[ae,if_pos rfl,ah,if_pos rfl];unfold lM;rw[show dV s.ai m.key=none from BM (by rw[aP];rfl)];rfl)
def SU {q:Call} {m:ax} {t t0:Int} (h:dH q t0) (hm:dT (dh m)=true) (hv:m.kind=4/\(m.yes=true->m.ai.length=1/\(ab m.ai 0).key=m.key)) (hb:(decide (0<=cm q m.key)&&m.yes&&decide (0<=eW q.aL (dh m).bl.aU))=true):
 ig q m t=if(q.aL.filter λd=>!decide (d.key=m.key))=[] then{q with aC:=q.aC.set (cm q m.key).toNat (dh m),aL:=q.aL.filter (λd=>!decide (d.key=m.key)),end_:=t} else{q with aC:=q.aC.set (cm q m.key).toNat (dh m),aL:=q.aL.filter λd=>!decide (d.key=m.key)}:=by
 simp only[Bool.and_eq_true,decide_eq_true_eq] at hb;obtain⟨⟨h1,h2⟩,h3⟩:=hb;have uR:=oe.1 h3;have hk:(dh m).bl.key=(dh m).key:=(rm hm h2).2;rw[show(λd:au=>!decide (d.key=m.key))=λd=>!decide (d.key=(dh m).key) from rfl,ads h uR hk];unfold ig;rw[if_pos hv,if_neg om,if_pos h2];unfold lu;rw[if_pos uR];rfl
def aeg (x:aj) (e:Ev) (hg:bR x) (ht:x.time<=1000000):
 Fn prog 137 [x.av,e.av] (AV.dy [(jJ x e).1.av,AV.bool (jJ x e).2]):=by
 refine Fn.go 82 func137 ntmps137 (λW I a U=>?_);have mY:=hg.lens;have vU:=hg.seen;have zS:=hg.time;refine sr<|U.box rfl .tt λb2 I a w U=>U.o .bp λU=>U.alloc rfl dM ei λb4 I a w U=>?_;refine bm λI a w U=>?_;refine U.o (.cl (jE ..)) λU=>?_;refine ee λI a w U=>?_;refine U.q .F (.cl (ER ..)) λU=>?_;refine aF λI a w U=>?_;refine U.cd (λae=>?_) λae=>?_
 .rw[Ph] at ae;replace ae:=nt ae;refine aR λI a w U=>?_;refine U.ret rfl (.cons (.sx 1) (.cons (.t rfl) aW.nil)) ?_;exact(by rw[JT ae];rfl)
 rw[Ph] at ae;replace ae:=nf ae;have FB:=ae;simp only[fF,aH,Bool.and_eq_true,decide_eq_true_eq] at FB;refine zt ?_;refine U.da 18 ?_;simp only[TD];refine gF ?_;refine .o (.c1 (ad4 ..))<|.o (uZ en cV) ?_;refine iC ?_;refine .o (DG en cV rfl .tt .r (λ_=>by have:=hg.Se (i:=e.ao.toNat) om;simp;omega)) ?_;refine cB ?_;refine .o (.bd j4 (.k (.k (.k (.k (.k (.k bc.nil))))))) ?_;refine gJ.alloc fI j4<|.nil ?_;intro I a w U;obtain⟨b6,U⟩:=U.uX (d:=6) rfl;refine U.sb 2 λU=>?_;refine nn ?_;refine St.cut (σ:=Int) (run 6 38 []) ⟨λval=>[],λval=>[Own.box b2 28 x.cells,Own.box b4 28 [AV.val (.int .i64 0),AV.rows 7 [],AV.rows 15 [],AV.rows 13 [],AV.rows 1 []],Own.box b6 53 ({xf with ao:=e.ao,num:=1,kind:=e.call,keys:=lq e,val:=val,ctx:=ab x.seen e.ao.toNat,bH:=x.time}:Call).cells],λval=>val=if e.call=1 then e.val else 0⟩ U ?rR ?Cq;case rR=>
  refine aR λI a w U=>?_;refine cz (λah=>?_) λah=>?_
  .refine aZ λI a w U=>?_;exact U.me e.val (by first|exact(if_pos ah).symm|exact(if_neg ah).symm)
  refine zt ?_;exact U.me 0 (by first|exact(if_pos ah).symm|exact(if_neg ah).symm)
 rintro val I a w an U;have gC:val=if e.call=1 then e.val else 0:=an
 subst gC;refine aB λI a w U=>?_;refine St.lo (σ:=Nat) (7::(run 24 44 [])) ⟨λk=>[(7,AV.int k)],λk=>[Own.box b2 28 x.cells,Own.box b4 28 [AV.val (.int .i64 0),AV.rows 7 [],AV.rows 15 [],AV.rows 13 [],AV.rows 1 []],Own.box b6 53 ({xf with ao:=e.ao,num:=tP x.calls e.ao k+1,kind:=e.call,keys:=lq e,val:=(if e.call=1 then e.val else 0),ctx:=ab x.seen e.ao.toNat,bH:=x.time}:Call).cells],λk=>k<=x.calls.length⟩ (λk=>x.calls.length-k) 0 U ?aJ ?bF;case aJ=>exact Nat.zero_le _
 rintro k I a w an U;have hk:k<=x.calls.length:=an;dsimp only at U;refine cI λI a w U=>?_;refine cz (λar=>?_) λar=>?_
 .refine aB λI a w U=>?_;refine cz (λaM=>?_) λaM=>?_
  .refine ee λI a w U=>?_;refine U.o (mH .tt .c (λ_=>by have:=(hg.call ar).num;omega)) λU=>?_;refine cI λI a w U=>?_;rw[Zp aM] at U;exact U.ag (k+1) (ar)
  refine aR λI a w U=>?_;rw[Zq aM] at U;exact U.ag (k+1) (ar)
 refine zt ?_;rw[acy x.calls e.ao hk om] at U;have U:=U.jc;refine U.gw (rp 2 [([0],none),([3],some (3,[71])),([2],none),([],none),([3],some (3,[])),([],none),([0],some (0,[]))]) aS aS rfl ?_;refine .o (uZ oO fI) ?_;refine bJ ?_;refine .r [0] (.lb 0) ?_;refine aY.Bb 3 rfl rfl oO fI rfl .tt .r gQ ?_;refine .r [2] (.ls 2) ?_;refine .o (.li [(iK x e).cells] DW (.u .nil)) ?_;refine aY.DE 3 rfl rfl oO fI rfl .r gQ ?_;refine bJ ?_;refine aY.jn (x:=AV.any) 0 (λF W0 I0 I a w Q U kk=>U.s1 0 λU=>kk _ _ _ U) ?_;refine .nil ?_;intro I a w U;rw[cF] at U;refine zt ?_;refine U.dt 6 ?_;simp only[TD];refine gF ?_;refine .o (bT (SF (x.calls++[iK x e]) x.time om (λq hq=>by rcases List.mem_append.1 hq with hq|hq;(have:=mY.2 q hq;omega);(obtain rfl:q=iK x e:=by simpa using hq);simp[iK,xf])) (az .r (az (.t rfl) aI))) ?_;refine .nil ?_;intro I a w U;refine aF λI a w U=>?_;refine U.ret rfl (.cons (.sx 1) (.cons (.t rfl) aW.nil)) ?_;exact(by rw[Cg ae];rfl)
def FC {w:aj} {e:Ev} (h:aH e.word 0 ((w.al.length:Int)-1)=false):gP w e=(w,false):=by unfold gP;rw[h];rfl
def aeh {w:aj} {e:Ev} (h:¬e.kind=1) (hn:0<=bY w.calls e.ao) (h3:e.kind=3):gz w e=({w with calls:=w.calls.set (bY w.calls e.ao).toNat {ab w.calls (bY w.calls e.ao).toNat with over:=true}},true):=by unfold gz;rw[if_neg h];dsimp only;rw[if_neg om,if_pos h3]
end Go.Proofs.YtdanidpleofjgaaGreat
set_option linter.all false
set_option maxRecDepth 100000
set_option maxHeartbeats 4000000
namespace Go.Proofs.YtdanidpleofjgaaGreat
open Go Go.RowKit Tryz
attribute [local irreducible] wpList Code.wp Ok
set_option maxHeartbeats 16000000 in
def aed (x:aj) (e:Ev) (hg:bR x) (ht:x.time<=1000000) (zE:cr e.at_=true):
 Fn prog 89 [x.av,e.av] (AV.dy [(eN x e).1.av,AV.bool (eN x e).2]):=by
 refine Fn.go 85 func89 ntmps89 (λW I a U=>?_);have hai:=iF.1 zE;have kr:=hg.al;have jK:=hg.aA;have fy:=(hg.site e.at_.toNat om).2;have SS:=jI.2 fy;refine sr<|U.box rfl .tt λb2 I a w U=>U.o .bp λU=>U.alloc rfl dM ei λb4 I a w U=>?_;refine gT λI a w U=>?_;refine U.alloc rfl cv dN λb6 I a w U=>?_;refine aB λI a w U=>?_;obtain⟨I,U⟩:=U.fb 2 6;refine U.l0 λb17 I a w U=>?_;refine aG λI a w U=>?_;refine U.ap 3 λv20 a w U=>?_;simp only[List.nil_append] at U;refine U.o .fv λU=>?_;try have aor:=U.ff 3 rfl
 refine aB λI a w U=>?_;refine U.l0 λb22 I a w U=>?_;refine aG λI a w U=>?_;refine U.ap 4 λxC a w U=>?_;simp only[List.nil_append] at U;refine cI λI a w U=>?_;refine cz (λae=>?_) λae=>?_
 .refine wp_seq ?_;obtain⟨Co,Cp,rQ⟩:=U.j3 3 rfl pj;subst rQ;refine U.dt 7 ?_;simp only[TD];refine gF ?_;refine .o (.c1 (adr (ab x.aA e.at_.toNat) SS)) ?_;refine .o (jj tL cv .tt .tt (λ_=>by simp only[List.length_map];omega)) ?_;refine .nil ?_;intro I a w U;refine U.lS 3 cv .tt .tt rfl (by exact gh om) rfl rfl λa w U=>?_;refine nn<|wp_seq ?_;have e9:∀y,y=Server.cells (jF (ab x.aA e.at_.toNat))->(List.map Server.cells x.aA).set e.at_.toNat y=List.map Server.cells (x.aA.set e.at_.toNat (jF (ab x.aA e.at_.toNat))):=λy hy=>by rw[hy,List.map_set]
  rw[e9] at U;rotate_left
  .rfl
  obtain⟨I,U⟩:=U.fu 3 1 0;refine U.gw (([0],none)::rp 3 [([1],some (1,[])),([],none)]) aS aS rfl ?_;refine .r [0] (.ls 0) ?_;refine dD ?_;refine aY.jn (x:=AV.any) 1 (λF W0 I0 I a w Q U kk=>U.sb 1 λU=>kk _ _ _ U) ?_;refine bJ ?_;refine .nil ?_;intro I a w U;refine zt ?_;refine U.ret rfl (.cons (.sx 1) (.cons (.t rfl) aW.nil)) ?_;exact(by rw[acz ae];rfl)
 refine aF λI a w U=>?_;refine cz (λah=>?_) λah=>?_
 .refine wp_seq ?_;obtain⟨Co,Cp,rQ⟩:=U.j3 3 rfl pj;subst rQ;refine U.dt 7 ?_;simp only[TD];refine gF ?_;refine .o (.c1 (ady (ab x.aA e.at_.toNat) SS)) ?_;refine .o (jj tL cv .tt .tt (λ_=>by simp only[List.length_map];omega)) ?_;refine .nil ?_;intro I a w U;refine U.lS 3 cv .tt .tt rfl (by exact gh om) rfl rfl λa w U=>?_;refine nn<|wp_seq ?_;have e9:∀y,y=Server.cells (ll (ab x.aA e.at_.toNat))->(List.map Server.cells x.aA).set e.at_.toNat y=List.map Server.cells (x.aA.set e.at_.toNat (ll (ab x.aA e.at_.toNat))):=λy hy=>by rw[hy,List.map_set]
  rw[e9] at U;rotate_left
  .rfl
  obtain⟨I,U⟩:=U.fu 3 1 0;refine U.gw (([0],none)::rp 2 [([1],some (1,[])),([],none)]) aS aS rfl ?_;refine .r [0] (.ls 0) ?_;refine cB ?_;refine aY.jn (x:=AV.any) 1 (λF W0 I0 I a w Q U kk=>U.sb 1 λU=>kk _ _ _ U) ?_;refine bJ ?_;refine .nil ?_;intro I a w U;refine zt ?_;refine U.ret rfl (.cons (.sx 1) (.cons (.t rfl) aW.nil)) ?_;exact(by rw[acA ah];rfl)
 refine aF λI a w U=>?_;refine cz (λar=>?_) λar=>?_
 .refine aG λI a w U=>?_;refine U.o (.c1 (adO (ab x.aA e.at_.toNat) fy)) λU=>?_;refine U.fm [4] (Eg xC x.al (gy (ab x.aA e.at_.toNat)) hg.al) (az .r (az .r aI)) rfl aN rfl λI a w U=>?_;change St _ _ [Own.box b2 28 [AV.int x.time,AV.val v20,dR x.al,jl x.calls,kY x.seen],Own.box b4 28 [AV.val (.int .i64 0),AV.rows 7 [],AV.rows 15 [],AV.rows 13 [],AV.rows 1 []],Own.gone,Own.row v20 43 7 (x.aA.map Server.cells),Own.gone] _ _ _ at U;refine aF λI a w U=>?_;obtain⟨I,U⟩:=U.fu 3 1 0;refine U.gw (([0],none)::rp 2 [([1],some (1,[])),([],none)]) aS aS rfl ?_;refine .r [0] (.ls 0) ?_;refine cB ?_;refine aY.jn (x:=AV.any) 1 (λF W0 I0 I a w Q U kk=>U.sb 1 λU=>kk _ _ _ U) ?_;refine bJ ?_;refine .nil ?_;intro I a w U;refine zt ?_;refine U.ret rfl (.cons (.sx 1) (.cons (.t rfl) aW.nil)) ?_;exact(by rw[acB ar];rfl)
 refine bm λI a w U=>?_;refine U.o (.c2 (adz (ab x.aA e.at_.toNat) e.slot fy)) λU=>?_;refine bB λI a w U=>?_;refine U.alloc rfl cv dN λb8 I a w U=>U.alloc rfl dI eI λb9 I a w U=>?_;refine U.sb 5 λU=>?_;obtain⟨I,U⟩:=U.fb 5 8;refine U.sb 6 λU=>?_;obtain⟨I,U⟩:=U.fb 6 9;refine aB λI a w U=>?_;obtain⟨Co,Cp,rQ⟩:=U.j3 3 rfl pj;subst rQ;refine cj λI a w U=>?_;refine U.o (jj tL cv .tt .tt (λ_=>by simp only[List.length_map];omega)) λU=>?_;refine U.lS 3 cv .tt .tt rfl (by exact gh om) rfl rfl λa w U=>?_;refine nn<|wp_seq<|wp_seq ?_;have e9:∀y,y=Server.cells (eZ (ab x.aA e.at_.toNat) e.slot).1->(List.map Server.cells x.aA).set e.at_.toNat y=List.map Server.cells (x.aA.set e.at_.toNat (eZ (ab x.aA e.at_.toNat) e.slot).1):=λy hy=>by rw[hy,List.map_set]
 rw[e9] at U;rotate_left
 .rfl
 obtain⟨I,U⟩:=U.fu 3 1 0;refine aB λI a w U=>?_;refine U.cd (λaM=>?_) λaM=>?_
 .refine aG λI a w U=>?_;refine U.o (.li [(eZ (ab x.aA e.at_.toNat) e.slot).2.1.cells] ir (.u .nil)) λU=>?_;refine U.fm [4] (Eg xC x.al [(eZ (ab x.aA e.at_.toNat) e.slot).2.1] hg.al) (az .r (az .r aI)) rfl aN rfl λI a w U=>?_;change St _ _ [Own.box b2 28 [AV.int x.time,mL (x.aA.set e.at_.toNat (eZ (ab x.aA e.at_.toNat) e.slot).1),dR x.al,jl x.calls,kY x.seen],Own.box b4 28 [AV.val (.int .i64 0),AV.rows 7 [],AV.rows 15 [],AV.rows 13 [],AV.rows 1 []],Own.gone,Own.gone,Own.gone,Own.gone,Own.gone] _ _ _ at U;refine iP λI a w U=>?_;refine U.ret rfl (.cons (.sx 1) (.cons (.t rfl) aW.nil)) ?_;exact(by rw[abY ae ah ar aM];rfl)
 refine aZ λI a w U=>?_;refine U.ret rfl (.cons (.sx 1) (.cons (.t rfl) aW.nil)) ?_;exact(by rw[abZ ae ah ar aM];rfl)
end Go.Proofs.YtdanidpleofjgaaGreat
