/- Part 46: rules of the proofs, contracts of functions, plain facts. -/
import Derived.Test.YtoeioeimmfpefaaGreatP45
set_option linter.unusedVariables false
set_option linter.unusedSimpArgs false
set_option maxRecDepth 100000
set_option maxHeartbeats 4000000
namespace Go.Proofs.YtoeioeimmfpefaaGreat
open Go Go.RowKit
attribute [local irreducible] wpList Code.wp Ok
set_option maxHeartbeats 8000000 in
theorem WQ (bs br:Nat) (code:List UInt8) (bB:code.length≤1099511627776) (s:di) (p:Int) (n:Nat) (h:cB n s) (h0:0≤p) (h1:p≤n) (hn:n≤880000):
 cL Tryz.prog 103 [AV.val (.pointer (some ⟨bs,0,none⟩))] [Own.box bs 62 [AV.val (.pointer (some ⟨br,0,none⟩)),AV.int s.w.time,bK s.w.au,bj s.w.ao,bE s.w.calls,bI s.w.seen,AV.val s.lv],Own.row s.lv 39 11 (s.list.map Ev.cells),Own.box br 88 [bF code,AV.int (p)]] (fun r:di×Int=>cB (n+800) r.1∧0≤r.2∧r.2≤((n+800:Nat):Int)) (fun r=>[Own.box bs 62 [AV.val (.pointer (some ⟨br,0,none⟩)),AV.int r.1.w.time,bK r.1.w.au,bj r.1.w.ao,bE r.1.w.calls,bI r.1.w.seen,AV.val r.1.lv],Own.row r.1.lv 39 11 (r.1.list.map Ev.cells),Own.box br 88 [bF code,AV.int (r.2)]]) (fun _=>AV.c9 []):=by
 refine cL.intro 143 Tryz.func103 rfl Tryz.ntmps103 rfl (by kernel_rfl) (fun W I a hs=>?_)
 refine az fun I a w hs=>?_
 refine hs.cW [0,1,2] (xq bs br code bB s (p) (n) h (by omega) (by omega) (by omega) 60 0 (by omega)) (aw .tt (aw .c (aw .c aP))) rfl (by decide) rfl fun WR I a w Ek hs=>?_
 obtain⟨eN,eH⟩:=WR
 change St _ _ [Own.box bs 62 [AV.val (.pointer (some ⟨br,0,none⟩)),AV.int eN.w.time,bK eN.w.au,bj eN.w.ao,bE eN.w.calls,bI eN.w.seen,AV.val eN.lv],Own.row eN.lv 39 11 (eN.list.map Ev.cells),Own.box br 88 [bF code,AV.int (eH)]] _ _ _ at hs
 replace Ek:cB ((n)+240) eN∧0≤eH∧eH≤(((n)+240:Nat):Int):=Ek
 obtain⟨uU,l10,u10⟩:=Ek
 refine nn ?_
 refine St.cut (σ:=di×Int) (run 34 11 []) ⟨fun⟨sA,pA⟩=>[],fun⟨sA,pA⟩=>[Own.box bs 62 [AV.val (.pointer (some ⟨br,0,none⟩)),AV.int sA.w.time,bK sA.w.au,bj sA.w.ao,bE sA.w.calls,bI sA.w.seen,AV.val sA.lv],Own.row sA.lv 39 11 (sA.list.map Ev.cells),Own.box br 88 [bF code,AV.int (pA)]],fun⟨sA,pA⟩=>cB (n+250) sA∧0≤pA∧pA≤((n+250:Nat):Int)⟩ hs ?El ?Em
 case El=>
  refine aJ fun I a w hs=>?_
  refine hs.dZ [2] (eM br code (eH) (2) (by omega) bB) (aw .tt (aw .c aP)) rfl (by decide) rfl fun I a w hs=>?_
  change St _ _ [Own.box bs 62 [AV.val (.pointer (some ⟨br,0,none⟩)),AV.int eN.w.time,bK eN.w.au,bj eN.w.ao,bE eN.w.calls,bI eN.w.seen,AV.val eN.lv],Own.row eN.lv 39 11 (eN.list.map Ev.cells),Own.box br 88 [bF code,AV.int (eH+1)]] _ _ _ at hs
  have WS:=fZ code (eH) (2)
  have WT:=fL code (eH) (2) (by omega)
  try have WU:=gu code (eH) (n:=2) (by omega)
  generalize cX code (eH) (2)=x15 at hs WS WT WU
  refine hs.o .si fun hs=>nn ?_
  refine hs.cd (fun ae=>?_) fun ae=>?_
  ·skip
   refine aW fun I a w hs=>?_
   refine hs.dZ [2] (eM br code (eH+1) (2) (by omega) bB) (aw .tt (aw .c aP)) rfl (by decide) rfl fun I a w hs=>?_
   change St _ _ [Own.box bs 62 [AV.val (.pointer (some ⟨br,0,none⟩)),AV.int eN.w.time,bK eN.w.au,bj eN.w.ao,bE eN.w.calls,bI eN.w.seen,AV.val eN.lv],Own.row eN.lv 39 11 (eN.list.map Ev.cells),Own.box br 88 [bF code,AV.int (eH+1+1)]] _ _ _ at hs
   have Lz:=fZ code (eH+1) (2)
   have LA:=fL code (eH+1) (2) (by omega)
   try have WV:=gu code (eH+1) (n:=2) (by omega)
   generalize cX code (eH+1) (2)=WW at hs Lz LA WV
   refine hs.cW [0,1,2] (xr bs br code bB eN (eH+1+1) (n+242) (uU.mono (by omega)) (by omega) (by omega) (by omega) WW (z7 Lz LA.2)) (aw .tt (aw .tt aP)) rfl (by decide) rfl fun WX I a w En hs=>?_
   obtain⟨o5,Ae⟩:=WX
   change St _ _ [Own.box bs 62 [AV.val (.pointer (some ⟨br,0,none⟩)),AV.int o5.w.time,bK o5.w.au,bj o5.w.ao,bE o5.w.calls,bI o5.w.seen,AV.val o5.lv],Own.row o5.lv 39 11 (o5.list.map Ev.cells),Own.box br 88 [bF code,AV.int (Ae)]] _ _ _ at hs
   replace En:cB ((n+242)+8) o5∧0≤Ae∧Ae≤(((n+242)+8:Nat):Int):=En
   obtain⟨LB,l23,u23⟩:=En
   refine nn ?_
   exact hs.me (o5,Ae) (by first|exact⟨LB.mono (by omega),by first|omega|(dsimp only;omega)|(dsimp only;push_cast;omega)|(push_cast;omega)|simp,by first|omega|(dsimp only;omega)|(dsimp only;push_cast;omega)|(push_cast;omega)|simp⟩|exact⟨Af.mono (by omega),by first|omega|(dsimp only;omega)|(dsimp only;push_cast;omega)|(push_cast;omega)|simp,by first|omega|(dsimp only;omega)|(dsimp only;push_cast;omega)|(push_cast;omega)|simp⟩)
  ·skip
   refine wp_seq ?_
   refine hs.vT 12 _ [([],none),([],none),([],none),([],none),([0],none),([2],some (2,[])),([],none),([],none),([],none),([0],none),([2],some (2,[])),([],none)] rfl (by kernel_rfl) (by kernel_rfl) rfl ?_
   simp only[List.take_succ_cons,List.take_zero]
   refine de ?_
   refine .r [0] (.lb 0) ?_
   refine aV.sk 2 rfl rfl (eM br code (eH+1) 4 (by omega) bB) (aw .tt (aw .c aP)) ?_
   refine du ?_
   refine .r [0] (.lb 0) ?_
   refine aV.sk 2 rfl rfl (eM br code (eH+1+1) 3 (by omega) bB) (aw .tt (aw .c aP)) ?_
   refine .o (.bd jb (.k (.k (.k aZ.nil)))) ?_
   refine .nil ?_
   intro I a w hs
   change St _ _ [Own.box bs 62 [AV.val (.pointer (some ⟨br,0,none⟩)),AV.int eN.w.time,bK eN.w.au,bj eN.w.ao,bE eN.w.calls,bI eN.w.seen,AV.val eN.lv],Own.row eN.lv 39 11 (eN.list.map Ev.cells),Own.box br 88 [bF code,AV.int (eH+1+1+1)]] _ _ _ at hs
   have WY:=fZ code (eH+1) (4)
   have WZ:=fL code (eH+1) (4) (by omega)
   try have W1:=gu code (eH+1) (n:=4) (by omega)
   generalize cX code (eH+1) (4)=W2 at hs WY WZ W1
   have W3:=fZ code (eH+1+1) (3)
   have W4:=fL code (eH+1+1) (3) (by omega)
   try have W5:=gu code (eH+1+1) (n:=3) (by omega)
   generalize cX code (eH+1+1) (3)=W6 at hs W3 W4 W5
   show wpList _ _ _ _ _ _
   refine hs.cW [0,1] (kg bs br eN ⟨9,W2,0,0,0,W6,0,0,0,0,0⟩ (n+243) (uU.mono (by omega)) (by omega) (iJ)) (aw .tt (aw .tt aP)) rfl (by decide) rfl fun W7 I a w zM hs=>?_
   obtain⟨jG,b36⟩:=W7
   change St _ _ [Own.box bs 62 [AV.val (.pointer (some ⟨br,0,none⟩)),AV.int jG.w.time,bK jG.w.au,bj jG.w.ao,bE jG.w.calls,bI jG.w.seen,AV.val jG.lv],Own.row jG.lv 39 11 (jG.list.map Ev.cells),Own.box br 88 [bF code,AV.int (eH+1+1+1)]] _ _ _ at hs
   replace zM:cB ((n+243)+1) jG:=zM
   refine aW fun I a w hs=>?_
   refine hs.dZ [2] (eM br code (eH+1+1+1) (4) (by omega) bB) (aw .tt (aw .c aP)) rfl (by decide) rfl fun I a w hs=>?_
   change St _ _ [Own.box bs 62 [AV.val (.pointer (some ⟨br,0,none⟩)),AV.int jG.w.time,bK jG.w.au,bj jG.w.ao,bE jG.w.calls,bI jG.w.seen,AV.val jG.lv],Own.row jG.lv 39 11 (jG.list.map Ev.cells),Own.box br 88 [bF code,AV.int (eH+1+1+1+1)]] _ _ _ at hs
   have W8:=fZ code (eH+1+1+1) (4)
   have W9:=fL code (eH+1+1+1) (4) (by omega)
   try have Xa:=gu code (eH+1+1+1) (n:=4) (by omega)
   generalize cX code (eH+1+1+1) (4)=Xb at hs W8 W9 Xa
   refine hs.o (.bd jb (.k (.k aZ.nil))) fun hs=>?_
   refine hs.cW [0,1] (kg bs br jG ⟨8,Xb,0,0,0,0,0,0,0,0,0⟩ (n+244) zM (by omega) (iJ)) (aw .tt (aw .tt aP)) rfl (by decide) rfl fun Xc I a w Af hs=>?_
   obtain⟨o6,b44⟩:=Xc
   change St _ _ [Own.box bs 62 [AV.val (.pointer (some ⟨br,0,none⟩)),AV.int o6.w.time,bK o6.w.au,bj o6.w.ao,bE o6.w.calls,bI o6.w.seen,AV.val o6.lv],Own.row o6.lv 39 11 (o6.list.map Ev.cells),Own.box br 88 [bF code,AV.int (eH+1+1+1+1)]] _ _ _ at hs
   replace Af:cB ((n+244)+1) o6:=Af
   refine nn ?_
   exact hs.me (o6,eH+1+1+1+1) (by first|exact⟨LB.mono (by omega),by first|omega|(dsimp only;omega)|(dsimp only;push_cast;omega)|(push_cast;omega)|simp,by first|omega|(dsimp only;omega)|(dsimp only;push_cast;omega)|(push_cast;omega)|simp⟩|exact⟨Af.mono (by omega),by first|omega|(dsimp only;omega)|(dsimp only;push_cast;omega)|(push_cast;omega)|simp,by first|omega|(dsimp only;omega)|(dsimp only;push_cast;omega)|(push_cast;omega)|simp⟩)
 case Em=>
  rintro⟨sA,pA⟩ I a w al hs
  obtain⟨kA,lA,uA⟩:=al
  dsimp only at hs
  refine az fun I a w hs=>?_
  refine nn<|wp_block ?_
  refine St.lo (σ:=Nat×di×Int) (run 3 2 (run 25 45 [])) ⟨fun⟨i,s1,p1⟩=>[(2,AV.int i)],fun⟨i,s1,p1⟩=>[Own.box bs 62 [AV.val (.pointer (some ⟨br,0,none⟩)),AV.int s1.w.time,bK s1.w.au,bj s1.w.ao,bE s1.w.calls,bI s1.w.seen,AV.val s1.lv],Own.row s1.lv 39 11 (s1.list.map Ev.cells),Own.box br 88 [bF code,AV.int (p1)]],fun⟨i,s1,p1⟩=>cB (n+260+61*i) s1∧0≤p1∧p1≤((n+260+61*i:Nat):Int)∧i≤3⟩ (fun⟨i,s1,p1⟩=>3-i) (0,sA,pA) hs ?aN ?aO
  case aN=>exact⟨kA.mono (by omega),lA,by first|omega|(dsimp only;omega)|(dsimp only;push_cast;omega)|(push_cast;omega)|simp,by first|omega|(dsimp only;omega)|(dsimp only;push_cast;omega)|(push_cast;omega)|simp⟩
  case aO=>
   rintro⟨i,s1,p1⟩ I a w al hs
   obtain⟨gL,ny,zR,hi⟩:=al
   dsimp only at hs
   have ix:=gL.ao
   refine aW fun I a w hs=>?_
   refine hs.dZ [2] (eM br code (p1) (3) (by omega) bB) (aw .tt (aw .c aP)) rfl (by decide) rfl fun I a w hs=>?_
   change St _ _ [Own.box bs 62 [AV.val (.pointer (some ⟨br,0,none⟩)),AV.int s1.w.time,bK s1.w.au,bj s1.w.ao,bE s1.w.calls,bI s1.w.seen,AV.val s1.lv],Own.row s1.lv 39 11 (s1.list.map Ev.cells),Own.box br 88 [bF code,AV.int (p1+1)]] _ _ _ at hs
   have Xd:=fZ code (p1) (3)
   have Xe:=fL code (p1) (3) (by omega)
   try have Xf:=gu code (p1) (n:=3) (by omega)
   generalize cX code (p1) (3)=x50 at hs Xd Xe Xf
   refine ai fun I a w hs=>?_
   refine nn ?_
   refine hs.cd (fun ah=>?_) fun ah=>?_
   ·try simp only[B] at ah
    refine gi fun I a w hs=>?_
    refine nn<|wp_block ?_
    refine St.lo (σ:=Nat×di) (4::(run 9 61 [])) ⟨fun⟨m,s2⟩=>[(4,AV.int m)],fun⟨m,s2⟩=>[Own.box bs 62 [AV.val (.pointer (some ⟨br,0,none⟩)),AV.int s2.w.time,bK s2.w.au,bj s2.w.ao,bE s2.w.calls,bI s2.w.seen,AV.val s2.lv],Own.row s2.lv 39 11 (s2.list.map Ev.cells),Own.box br 88 [bF code,AV.int (p1+1)]],fun⟨m,s2⟩=>cB (n+260+61*i+1+m) s2∧m≤60⟩ (fun⟨m,s2⟩=>60-m) (0,s1) hs ?dT ?dU
    case dT=>exact⟨gL.mono (by omega),by first|omega|(dsimp only;omega)|(dsimp only;push_cast;omega)|(push_cast;omega)|simp⟩
    case dU=>
     rintro⟨m,s2⟩ I a w al hs
     obtain⟨eU,hm⟩:=al
     dsimp only at hs
     refine aB fun I a w hs=>?_
     refine nn ?_
     refine hs.cd (fun aj=>?_) fun aj=>?_
     ·try simp only[B] at aj
      refine ai fun I a w hs=>?_
      refine hs.o (.bd jb (.k (.k (.k aZ.nil)))) fun hs=>?_
      refine hs.cW [0,1] (kg bs br s2 ⟨4,0,0,m,1,0,0,0,0,0,0⟩ (n+260+61*i+1+m) eU (by omega) (iJ)) (aw .tt (aw .tt aP)) rfl (by decide) rfl fun Xg I a w Eo hs=>?_
      obtain⟨o7,b69⟩:=Xg
      change St _ _ [Own.box bs 62 [AV.val (.pointer (some ⟨br,0,none⟩)),AV.int o7.w.time,bK o7.w.au,bj o7.w.ao,bE o7.w.calls,bI o7.w.seen,AV.val o7.lv],Own.row o7.lv 39 11 (o7.list.map Ev.cells),Own.box br 88 [bF code,AV.int (p1+1)]] _ _ _ at hs
      replace Eo:cB ((n+260+61*i+1+m)+1) o7:=Eo
      refine aB fun I a w hs=>?_
      refine nn ?_
      exact hs.ag (m+1,o7) (⟨Eo.mono (by omega),by first|omega|(dsimp only;omega)|(dsimp only;push_cast;omega)|(push_cast;omega)|simp⟩)
     ·try simp only[B] at aj
      refine wp_exit<|aF<|aF<|aY ?_
      refine aB fun I a w hs=>?_
      refine nn ?_
      exact hs.ag (i+1,s2,p1+1) (⟨eU.mono (by omega),by first|omega|(dsimp only;omega)|(dsimp only;push_cast;omega)|(push_cast;omega)|simp,by first|omega|(dsimp only;omega)|(dsimp only;push_cast;omega)|(push_cast;omega)|simp,by first|omega|(dsimp only;omega)|(dsimp only;push_cast;omega)|(push_cast;omega)|simp⟩)
   ·try simp only[B] at ah
    refine wp_exit<|aF<|aF<|aY ?_
    refine dq fun I a w hs=>?_
    refine wpList_nil ?_
    have hhl:=gL.ao
    obtain⟨hd,Xh⟩:∃hd:Int,(s1.w.ao.length:Int)=hd:=⟨_,rfl⟩
    rw[Xh] at hs
    refine aJ fun I a w hs=>?_
    refine hs.dZ [2] (eM br code (p1+1) (3) (by omega) bB) (aw .tt (aw .c aP)) rfl (by decide) rfl fun I a w hs=>?_
    change St _ _ [Own.box bs 62 [AV.val (.pointer (some ⟨br,0,none⟩)),AV.int s1.w.time,bK s1.w.au,bj s1.w.ao,bE s1.w.calls,bI s1.w.seen,AV.val s1.lv],Own.row s1.lv 39 11 (s1.list.map Ev.cells),Own.box br 88 [bF code,AV.int (p1+1+1)]] _ _ _ at hs
    have Xi:=fZ code (p1+1) (3)
    have Xj:=fL code (p1+1) (3) (by omega)
    try have Xk:=gu code (p1+1) (n:=3) (by omega)
    generalize cX code (p1+1) (3)=Xl at hs Xi Xj Xk
    refine hs.s fun hs=>nn<|wp_block ?_
    refine St.lo (σ:=Int×di×Int) (run 2 6 (run 42 81 [])) ⟨fun⟨y,s3,p3⟩=>[(6,AV.int y)],fun⟨y,s3,p3⟩=>[Own.box bs 62 [AV.val (.pointer (some ⟨br,0,none⟩)),AV.int s3.w.time,bK s3.w.au,bj s3.w.ao,bE s3.w.calls,bI s3.w.seen,AV.val s3.lv],Own.row s3.lv 39 11 (s3.list.map Ev.cells),Own.box br 88 [bF code,AV.int (p3)]],fun⟨y,s3,p3⟩=>cB (n+500+12*(2-y).toNat) s3∧0≤p3∧p3≤((n+500+12*(2-y).toNat:Nat):Int)∧0≤y∧y≤2⟩ (fun⟨y,s3,p3⟩=>y.toNat) (Xl,s1,p1+1+1) hs ?iq ?ir
    case iq=>exact⟨gL.mono (by omega),by first|omega|(dsimp only;omega)|(dsimp only;push_cast;omega)|(push_cast;omega)|simp,by first|omega|(dsimp only;omega)|(dsimp only;push_cast;omega)|(push_cast;omega)|simp,by first|omega|(dsimp only;omega)|(dsimp only;push_cast;omega)|(push_cast;omega)|simp,by first|omega|(dsimp only;omega)|(dsimp only;push_cast;omega)|(push_cast;omega)|simp⟩
    case ir=>
     rintro⟨y,s3,p3⟩ I a w al hs
     obtain⟨ll,Ab,Ac,Xm,Xn⟩:=al
     dsimp only at hs
     refine ai fun I a w hs=>?_
     refine nn ?_
     refine hs.cd (fun aI=>?_) fun aI=>?_
     ·try simp only[B] at aI
      refine aJ fun I a w hs=>?_
      refine hs.dZ [2] (eM br code (p3) (4) (by omega) bB) (aw .tt (aw .c aP)) rfl (by decide) rfl fun I a w hs=>?_
      change St _ _ [Own.box bs 62 [AV.val (.pointer (some ⟨br,0,none⟩)),AV.int s3.w.time,bK s3.w.au,bj s3.w.ao,bE s3.w.calls,bI s3.w.seen,AV.val s3.lv],Own.row s3.lv 39 11 (s3.list.map Ev.cells),Own.box br 88 [bF code,AV.int (p3+1)]] _ _ _ at hs
      have Xo:=fZ code (p3) (4)
      have Xp:=fL code (p3) (4) (by omega)
      try have Xq:=gu code (p3) (n:=4) (by omega)
      generalize cX code (p3) (4)=Ep at hs Xo Xp Xq
      refine aW fun I a w hs=>?_
      refine hs.dZ [2] (eM br code (p3+1) (3) (by omega) bB) (aw .tt (aw .c aP)) rfl (by decide) rfl fun I a w hs=>?_
      change St _ _ [Own.box bs 62 [AV.val (.pointer (some ⟨br,0,none⟩)),AV.int s3.w.time,bK s3.w.au,bj s3.w.ao,bE s3.w.calls,bI s3.w.seen,AV.val s3.lv],Own.row s3.lv 39 11 (s3.list.map Ev.cells),Own.box br 88 [bF code,AV.int (p3+1+1)]] _ _ _ at hs
      have Xr:=fZ code (p3+1) (3)
      have Xs:=fL code (p3+1) (3) (by omega)
      try have Xt:=gu code (p3+1) (n:=3) (by omega)
      generalize cX code (p3+1) (3)=x94 at hs Xr Xs Xt
      refine ai fun I a w hs=>?_
      refine nn ?_
      refine hs.cd (fun aL=>?_) fun aL=>?_
      ·skip
       refine ai fun I a w hs=>?_
       refine hs.o (.bd jb (.k (.k aZ.nil))) fun hs=>?_
       refine hs.cW [0,1] (kg bs br s3 ⟨6,Ep,0,0,0,0,0,0,0,0,0⟩ (n+500+12*(2-y).toNat+2) (ll.mono (by omega)) (by omega) (iJ)) (aw .tt (aw .tt aP)) rfl (by decide) rfl fun Xu I a w Er hs=>?_
       obtain⟨o8,adZ⟩:=Xu
       change St _ _ [Own.box bs 62 [AV.val (.pointer (some ⟨br,0,none⟩)),AV.int o8.w.time,bK o8.w.au,bj o8.w.ao,bE o8.w.calls,bI o8.w.seen,AV.val o8.lv],Own.row o8.lv 39 11 (o8.list.map Ev.cells),Own.box br 88 [bF code,AV.int (p3+1+1)]] _ _ _ at hs
       replace Er:cB ((n+500+12*(2-y).toNat+2)+1) o8:=Er
       refine ai fun I a w hs=>?_
       refine hs.o (.bd jb (.k (.k aZ.nil))) fun hs=>?_
       refine hs.cW [0,1] (kg bs br o8 ⟨7,Ep,0,0,0,0,0,0,0,0,0⟩ (n+500+12*(2-y).toNat+3) Er (by omega) (iJ)) (aw .tt (aw .tt aP)) rfl (by decide) rfl fun Xv I a w Es hs=>?_
       obtain⟨pb,ad0⟩:=Xv
       change St _ _ [Own.box bs 62 [AV.val (.pointer (some ⟨br,0,none⟩)),AV.int pb.w.time,bK pb.w.au,bj pb.w.ao,bE pb.w.calls,bI pb.w.seen,AV.val pb.lv],Own.row pb.lv 39 11 (pb.list.map Ev.cells),Own.box br 88 [bF code,AV.int (p3+1+1)]] _ _ _ at hs
       replace Es:cB ((n+500+12*(2-y).toNat+3)+1) pb:=Es
       refine aB fun I a w hs=>?_
       refine nn ?_
       exact hs.ag (y-1,pb,p3+1+1) (⟨Es.mono (by omega),by first|omega|(dsimp only;omega)|(dsimp only;push_cast;omega)|(push_cast;omega)|simp,by first|omega|(dsimp only;omega)|(dsimp only;push_cast;omega)|(push_cast;omega)|simp,by first|omega|(dsimp only;omega)|(dsimp only;push_cast;omega)|(push_cast;omega)|simp,by first|omega|(dsimp only;omega)|(dsimp only;push_cast;omega)|(push_cast;omega)|simp⟩)
      ·skip
       refine ai fun I a w hs=>?_
       refine nn ?_
       refine hs.cd (fun bf=>?_) fun bf=>?_
       ·skip
        refine cx fun I a w hs=>?_
        refine hs.dZ [2] (eM br code (p3+1+1) (3) (by omega) bB) (aw .tt (aw .c aP)) rfl (by decide) rfl fun I a w hs=>?_
        change St _ _ [Own.box bs 62 [AV.val (.pointer (some ⟨br,0,none⟩)),AV.int s3.w.time,bK s3.w.au,bj s3.w.ao,bE s3.w.calls,bI s3.w.seen,AV.val s3.lv],Own.row s3.lv 39 11 (s3.list.map Ev.cells),Own.box br 88 [bF code,AV.int (p3+1+1+1)]] _ _ _ at hs
        have Et:=fZ code (p3+1+1) (3)
        have Eu:=fL code (p3+1+1) (3) (by omega)
        try have Ew:=gu code (p3+1+1) (n:=3) (by omega)
        generalize cX code (p3+1+1) (3)=Ex at hs Et Eu Ew
        refine hs.o (.bd jb (.k (.k (.k aZ.nil)))) fun hs=>?_
        refine hs.cW [0,1] (kg bs br s3 ⟨9,Ep,0,0,0,Ex,0,0,0,0,0⟩ (n+500+12*(2-y).toNat+3) (ll.mono (by omega)) (by omega) (iJ)) (aw .tt (aw .tt aP)) rfl (by decide) rfl fun Ey I a w tq hs=>?_
        obtain⟨iW,Xw⟩:=Ey
        change St _ _ [Own.box bs 62 [AV.val (.pointer (some ⟨br,0,none⟩)),AV.int iW.w.time,bK iW.w.au,bj iW.w.ao,bE iW.w.calls,bI iW.w.seen,AV.val iW.lv],Own.row iW.lv 39 11 (iW.list.map Ev.cells),Own.box br 88 [bF code,AV.int (p3+1+1+1)]] _ _ _ at hs
        replace tq:cB ((n+500+12*(2-y).toNat+3)+1) iW:=tq
        refine aB fun I a w hs=>?_
        refine nn ?_
        exact hs.ag (y-1,iW,p3+1+1+1) (⟨tq.mono (by omega),by first|omega|(dsimp only;omega)|(dsimp only;push_cast;omega)|(push_cast;omega)|simp,by first|omega|(dsimp only;omega)|(dsimp only;push_cast;omega)|(push_cast;omega)|simp,by first|omega|(dsimp only;omega)|(dsimp only;push_cast;omega)|(push_cast;omega)|simp,by first|omega|(dsimp only;omega)|(dsimp only;push_cast;omega)|(push_cast;omega)|simp⟩)
       ·skip
        refine aW fun I a w hs=>?_
        refine hs.dZ [2] (eM br code (p3+1+1) (2) (by omega) bB) (aw .tt (aw .c aP)) rfl (by decide) rfl fun I a w hs=>?_
        change St _ _ [Own.box bs 62 [AV.val (.pointer (some ⟨br,0,none⟩)),AV.int s3.w.time,bK s3.w.au,bj s3.w.ao,bE s3.w.calls,bI s3.w.seen,AV.val s3.lv],Own.row s3.lv 39 11 (s3.list.map Ev.cells),Own.box br 88 [bF code,AV.int (p3+1+1+1)]] _ _ _ at hs
        have LC:=fZ code (p3+1+1) (2)
        have LD:=fL code (p3+1+1) (2) (by omega)
        try have Xx:=gu code (p3+1+1) (n:=2) (by omega)
        generalize cX code (p3+1+1) (2)=Xy at hs LC LD Xx
        refine hs.cW [0,1,2] (xr bs br code bB s3 (p3+1+1+1) (n+500+12*(2-y).toNat+3) (ll.mono (by omega)) (by omega) (by omega) (by omega) Xy (z7 LC LD.2)) (aw .tt (aw .tt aP)) rfl (by decide) rfl fun Xz I a w Ez hs=>?_
        obtain⟨pd,Ag⟩:=Xz
        change St _ _ [Own.box bs 62 [AV.val (.pointer (some ⟨br,0,none⟩)),AV.int pd.w.time,bK pd.w.au,bj pd.w.ao,bE pd.w.calls,bI pd.w.seen,AV.val pd.lv],Own.row pd.lv 39 11 (pd.list.map Ev.cells),Own.box br 88 [bF code,AV.int (Ag)]] _ _ _ at hs
        replace Ez:cB ((n+500+12*(2-y).toNat+3)+8) pd∧0≤Ag∧Ag≤(((n+500+12*(2-y).toNat+3)+8:Nat):Int):=Ez
        obtain⟨XA,ad1,ad2⟩:=Ez
        refine aB fun I a w hs=>?_
        refine nn ?_
        exact hs.ag (y-1,pd,Ag) (⟨XA.mono (by omega),by first|omega|(dsimp only;omega)|(dsimp only;push_cast;omega)|(push_cast;omega)|simp,by first|omega|(dsimp only;omega)|(dsimp only;push_cast;omega)|(push_cast;omega)|simp,by first|omega|(dsimp only;omega)|(dsimp only;push_cast;omega)|(push_cast;omega)|simp,by first|omega|(dsimp only;omega)|(dsimp only;push_cast;omega)|(push_cast;omega)|simp⟩)
     ·try simp only[B] at aI
      refine wp_exit<|aF<|aF<|aY ?_
      refine az fun I a w hs=>?_
      refine nn<|wp_block ?_
      refine St.lo (σ:=Nat×di) (8::(run 18 123 [])) ⟨fun⟨z,s4⟩=>[(8,AV.int z)],fun⟨z,s4⟩=>[Own.box bs 62 [AV.val (.pointer (some ⟨br,0,none⟩)),AV.int s4.w.time,bK s4.w.au,bj s4.w.ao,bE s4.w.calls,bI s4.w.seen,AV.val s4.lv],Own.row s4.lv 39 11 (s4.list.map Ev.cells),Own.box br 88 [bF code,AV.int (p3)]],fun⟨z,s4⟩=>cB (n+540+z) s4∧z≤16⟩ (fun⟨z,s4⟩=>16-z) (0,s3) hs ?ta ?tb
      case ta=>exact⟨ll.mono (by omega),by first|omega|(dsimp only;omega)|(dsimp only;push_cast;omega)|(push_cast;omega)|simp⟩
      case tb=>
       rintro⟨z,s4⟩ I a w al hs
       obtain⟨pM,hz⟩:=al
       dsimp only at hs
       refine pS fun I a w hs=>?_
       refine nn ?_
       refine hs.cd (fun aX=>?_) fun aX=>?_
       ·try simp only[B] at aX
        refine ai fun I a w hs=>?_
        refine hs.o (.bd jb (.k (.k aZ.nil))) fun hs=>?_
        refine hs.cW [0,1] (kg bs br s4 ⟨4,0,0,hd,0,0,0,0,0,0,0⟩ (n+540+z) pM (by omega) (iJ)) (aw .tt (aw .tt aP)) rfl (by decide) rfl fun XB I a w EA hs=>?_
        obtain⟨pe,ad3⟩:=XB
        change St _ _ [Own.box bs 62 [AV.val (.pointer (some ⟨br,0,none⟩)),AV.int pe.w.time,bK pe.w.au,bj pe.w.ao,bE pe.w.calls,bI pe.w.seen,AV.val pe.lv],Own.row pe.lv 39 11 (pe.list.map Ev.cells),Own.box br 88 [bF code,AV.int (p3)]] _ _ _ at hs
        replace EA:cB ((n+540+z)+1) pe:=EA
        refine aB fun I a w hs=>?_
        refine nn ?_
        exact hs.ag (z+1,pe) (⟨EA.mono (by omega),by first|omega|(dsimp only;omega)|(dsimp only;push_cast;omega)|(push_cast;omega)|simp⟩)
       ·try simp only[B] at aX
        refine wp_exit<|aF<|aF<|aY ?_
        refine az fun I a w hs=>?_
        refine hs.cW [0,1,2] (xq bs br code bB s4 (p3) (n+560) (pM.mono (by omega)) (by omega) (by omega) (by omega) 60 0 (by omega)) (aw .tt (aw .c (aw .c aP))) rfl (by decide) rfl fun XC I a w EB hs=>?_
        obtain⟨pf,Ah⟩:=XC
        change St _ _ [Own.box bs 62 [AV.val (.pointer (some ⟨br,0,none⟩)),AV.int pf.w.time,bK pf.w.au,bj pf.w.ao,bE pf.w.calls,bI pf.w.seen,AV.val pf.lv],Own.row pf.lv 39 11 (pf.list.map Ev.cells),Own.box br 88 [bF code,AV.int (Ah)]] _ _ _ at hs
        replace EB:cB ((n+560)+240) pf∧0≤Ah∧Ah≤(((n+560)+240:Nat):Int):=EB
        obtain⟨XD,ad4,ad5⟩:=EB
        refine wpList_nil ?_
        refine hs.ko (pf,Ah) [0,1,2] rfl .nil (by(try dsimp only);exact⟨XD.mono (by omega),by first|omega|(dsimp only;omega)|(dsimp only;push_cast;omega)|(push_cast;omega)|simp,by first|omega|(dsimp only;omega)|(dsimp only;push_cast;omega)|(push_cast;omega)|simp⟩) rfl rfl
end Go.Proofs.YtoeioeimmfpefaaGreat
