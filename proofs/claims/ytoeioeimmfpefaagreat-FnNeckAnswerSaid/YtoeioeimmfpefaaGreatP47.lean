/- Part 47: rules of the proofs, contracts of functions, plain facts. -/
import Derived.Test.YtoeioeimmfpefaaGreatP46
set_option linter.unusedVariables false
set_option linter.unusedSimpArgs false
set_option maxRecDepth 100000
set_option maxHeartbeats 4000000
namespace Go.Proofs.YtoeioeimmfpefaaGreat
open Go Go.RowKit
attribute [local irreducible] wpList Code.wp Ok
set_option maxHeartbeats 8000000 in
theorem XE (bs br:Nat) (code:List UInt8) (bB:code.length≤1099511627776) (s:di) (p:Int) (n:Nat) (h:cB n s) (h0:0≤p) (h1:p≤n) (hn:n≤870000) (qA:Int):
 cL Tryz.prog 54 [AV.val (.pointer (some ⟨bs,0,none⟩)),AV.int qA] [Own.box bs 62 [AV.val (.pointer (some ⟨br,0,none⟩)),AV.int s.w.time,bK s.w.au,bj s.w.ao,bE s.w.calls,bI s.w.seen,AV.val s.lv],Own.row s.lv 39 11 (s.list.map Ev.cells),Own.box br 88 [bF code,AV.int (p)]] (fun r:di×Int=>cB (n+850) r.1∧0≤r.2∧r.2≤((n+850:Nat):Int)) (fun r=>[Own.box bs 62 [AV.val (.pointer (some ⟨br,0,none⟩)),AV.int r.1.w.time,bK r.1.w.au,bj r.1.w.ao,bE r.1.w.calls,bI r.1.w.seen,AV.val r.1.lv],Own.row r.1.lv 39 11 (r.1.list.map Ev.cells),Own.box br 88 [bF code,AV.int (r.2)]]) (fun _=>AV.c9 []):=by
 refine cL.intro 128 Tryz.func54 rfl Tryz.ntmps54 rfl (by kernel_rfl) (fun W I a hs=>?_)
 refine aJ fun I a w hs=>?_
 refine hs.dZ [2] (eM br code (p) (4) (by omega) bB) (aw .tt (aw .c aP)) rfl (by decide) rfl fun I a w hs=>?_
 change St _ _ [Own.box bs 62 [AV.val (.pointer (some ⟨br,0,none⟩)),AV.int s.w.time,bK s.w.au,bj s.w.ao,bE s.w.calls,bI s.w.seen,AV.val s.lv],Own.row s.lv 39 11 (s.list.map Ev.cells),Own.box br 88 [bF code,AV.int (p+1)]] _ _ _ at hs
 have XF:=fZ code (p) (4)
 have BI:=fL code (p) (4) (by omega)
 try have XG:=gu code (p) (n:=4) (by omega)
 generalize cX code (p) (4)=x9 at hs XF BI XG
 refine aW fun I a w hs=>?_
 refine hs.dZ [2] (eM br code (p+1) (20) (by omega) bB) (aw .tt (aw .c aP)) rfl (by decide) rfl fun I a w hs=>?_
 change St _ _ [Own.box bs 62 [AV.val (.pointer (some ⟨br,0,none⟩)),AV.int s.w.time,bK s.w.au,bj s.w.ao,bE s.w.calls,bI s.w.seen,AV.val s.lv],Own.row s.lv 39 11 (s.list.map Ev.cells),Own.box br 88 [bF code,AV.int (p+1+1)]] _ _ _ at hs
 have XH:=fZ code (p+1) (20)
 have XI:=fL code (p+1) (20) (by omega)
 try have XJ:=gu code (p+1) (n:=20) (by omega)
 generalize cX code (p+1) (20)=jZ at hs XH XI XJ
 refine nn<|wp_block ?_
 refine St.cut (σ:=Bool) (run 6 26 []) ⟨fun bb=>[(26,AV.bool bb)],fun bb=>[Own.box bs 62 [AV.val (.pointer (some ⟨br,0,none⟩)),AV.int s.w.time,bK s.w.au,bj s.w.ao,bE s.w.calls,bI s.w.seen,AV.val s.lv],Own.row s.lv 39 11 (s.list.map Ev.cells),Own.box br 88 [bF code,AV.int (p+1+1)]],fun bb=>True⟩ hs ?XK ?XL
 case XK=>
  refine ai fun I a w hs=>?_
  refine nn ?_
  refine hs.cd (fun ae=>?_) fun ae=>?_
  ·skip
   refine wp_skip<|aG ?_
   exact hs.me (jZ==0) (by trivial)
  ·skip
   refine ai fun I a w hs=>?_
   refine nn ?_
   refine hs.cd (fun ah=>?_) fun ah=>?_
   ·skip
    refine wp_skip<|aG ?_
    exact hs.me (jZ==1) (by trivial)
   ·skip
    refine ai fun I a w hs=>?_
    refine nn ?_
    refine hs.cd (fun aj=>?_) fun aj=>?_
    ·skip
     refine wp_skip<|aG ?_
     exact hs.me (jZ==2) (by trivial)
    ·skip
     refine ai fun I a w hs=>?_
     refine nn ?_
     refine hs.cd (fun aI=>?_) fun aI=>?_
     ·skip
      refine wp_skip<|aG ?_
      exact hs.me (jZ==3) (by trivial)
     ·skip
      refine ai fun I a w hs=>?_
      refine nn ?_
      exact hs.me (jZ==4) (by trivial)
 case XL=>
  rintro bb I a w al hs
  dsimp only at hs
  refine hs.cd (fun aL=>?_) fun aL=>?_
  ·skip
   refine aW fun I a w hs=>?_
   refine hs.dZ [2] (eM br code (p+1+1) (2) (by omega) bB) (aw .tt (aw .c aP)) rfl (by decide) rfl fun I a w hs=>?_
   change St _ _ [Own.box bs 62 [AV.val (.pointer (some ⟨br,0,none⟩)),AV.int s.w.time,bK s.w.au,bj s.w.ao,bE s.w.calls,bI s.w.seen,AV.val s.lv],Own.row s.lv 39 11 (s.list.map Ev.cells),Own.box br 88 [bF code,AV.int (p+1+1+1)]] _ _ _ at hs
   have LF:=fZ code (p+1+1) (2)
   have LG:=fL code (p+1+1) (2) (by omega)
   try have XM:=gu code (p+1+1) (n:=2) (by omega)
   generalize cX code (p+1+1) (2)=XN at hs LF LG XM
   refine hs.cW [0,1,2] (xr bs br code bB s (p+1+1+1) (n+3) (h.mono (by omega)) (by omega) (by omega) (by omega) XN (z7 LF LG.2)) (aw .tt (aw .tt aP)) rfl (by decide) rfl fun XO I a w xj hs=>?_
   obtain⟨jH,pg⟩:=XO
   change St _ _ [Own.box bs 62 [AV.val (.pointer (some ⟨br,0,none⟩)),AV.int jH.w.time,bK jH.w.au,bj jH.w.ao,bE jH.w.calls,bI jH.w.seen,AV.val jH.lv],Own.row jH.lv 39 11 (jH.list.map Ev.cells),Own.box br 88 [bF code,AV.int (pg)]] _ _ _ at hs
   replace xj:cB ((n+3)+8) jH∧0≤pg∧pg≤(((n+3)+8:Nat):Int):=xj
   obtain⟨XP,l38,u38⟩:=xj
   refine aW fun I a w hs=>?_
   refine hs.dZ [2] (eM br code (pg) (14) (by omega) bB) (aw .tt (aw .c aP)) rfl (by decide) rfl fun I a w hs=>?_
   change St _ _ [Own.box bs 62 [AV.val (.pointer (some ⟨br,0,none⟩)),AV.int jH.w.time,bK jH.w.au,bj jH.w.ao,bE jH.w.calls,bI jH.w.seen,AV.val jH.lv],Own.row jH.lv 39 11 (jH.list.map Ev.cells),Own.box br 88 [bF code,AV.int (pg+1)]] _ _ _ at hs
   have XQ:=fZ code (pg) (14)
   have XR:=fL code (pg) (14) (by omega)
   try have XS:=gu code (pg) (n:=14) (by omega)
   generalize cX code (pg) (14)=XT at hs XQ XR XS
   refine hs.m fun hs=>?_
   refine hs.cW [0,1,2] (xq bs br code bB jH (pg+1) (n+12) (XP.mono (by omega)) (by omega) (by omega) (by omega) XT qA (by omega)) (aw .tt (aw .tt (aw .tt aP))) rfl (by decide) rfl fun XU I a w EC hs=>?_
   obtain⟨ph,Ai⟩:=XU
   change St _ _ [Own.box bs 62 [AV.val (.pointer (some ⟨br,0,none⟩)),AV.int ph.w.time,bK ph.w.au,bj ph.w.ao,bE ph.w.calls,bI ph.w.seen,AV.val ph.lv],Own.row ph.lv 39 11 (ph.list.map Ev.cells),Own.box br 88 [bF code,AV.int (Ai)]] _ _ _ at hs
   replace EC:cB ((n+12)+240) ph∧0≤Ai∧Ai≤(((n+12)+240:Nat):Int):=EC
   obtain⟨XV,l46,u46⟩:=EC
   refine wpList_nil<|eI ?_
   refine hs.ko (ph,Ai) [0,1,2] rfl .nil (by(try dsimp only);exact⟨XV.mono (by omega),by first|omega|(dsimp only;omega)|(dsimp only;push_cast;omega)|(push_cast;omega)|simp,by first|omega|(dsimp only;omega)|(dsimp only;push_cast;omega)|(push_cast;omega)|simp⟩) rfl rfl
  ·skip
   refine St.cut (σ:=Bool) (47::48::49::50::51::[]) ⟨fun bb=>[(47,AV.bool bb)],fun bb=>[Own.box bs 62 [AV.val (.pointer (some ⟨br,0,none⟩)),AV.int s.w.time,bK s.w.au,bj s.w.ao,bE s.w.calls,bI s.w.seen,AV.val s.lv],Own.row s.lv 39 11 (s.list.map Ev.cells),Own.box br 88 [bF code,AV.int (p+1+1)]],fun bb=>True⟩ hs ?Ed ?Ee
   case Ed=>
    refine ai fun I a w hs=>?_
    refine nn ?_
    refine hs.cd (fun bf=>?_) fun bf=>?_
    ·skip
     refine wp_skip<|aG ?_
     exact hs.me (jZ==5) (by trivial)
    ·skip
     refine ai fun I a w hs=>?_
     refine nn ?_
     refine hs.cd (fun aX=>?_) fun aX=>?_
     ·skip
      refine wp_skip<|aG ?_
      exact hs.me (jZ==6) (by trivial)
     ·skip
      refine ai fun I a w hs=>?_
      refine nn ?_
      refine hs.cd (fun bU=>?_) fun bU=>?_
      ·skip
       refine wp_skip<|aG ?_
       exact hs.me (jZ==7) (by trivial)
      ·skip
       refine ai fun I a w hs=>?_
       refine nn ?_
       exact hs.me (jZ==8) (by trivial)
   case Ee=>
    rintro bb I a w al hs
    dsimp only at hs
    refine hs.cd (fun cQ=>?_) fun cQ=>?_
    ·skip
     refine ai fun I a w hs=>?_
     refine hs.o (.bd jb (.k (.k aZ.nil))) fun hs=>?_
     refine hs.cW [0,1] (kg bs br s ⟨8,x9,0,0,0,0,0,0,0,0,0⟩ (n+2) (h.mono (by omega)) (by omega) (iJ)) (aw .tt (aw .tt aP)) rfl (by decide) rfl fun XW I a w ED hs=>?_
     obtain⟨jI,b55⟩:=XW
     change St _ _ [Own.box bs 62 [AV.val (.pointer (some ⟨br,0,none⟩)),AV.int jI.w.time,bK jI.w.au,bj jI.w.ao,bE jI.w.calls,bI jI.w.seen,AV.val jI.lv],Own.row jI.lv 39 11 (jI.list.map Ev.cells),Own.box br 88 [bF code,AV.int (p+1+1)]] _ _ _ at hs
     replace ED:cB ((n+2)+1) jI:=ED
     refine aW fun I a w hs=>?_
     refine hs.dZ [2] (eM br code (p+1+1) (14) (by omega) bB) (aw .tt (aw .c aP)) rfl (by decide) rfl fun I a w hs=>?_
     change St _ _ [Own.box bs 62 [AV.val (.pointer (some ⟨br,0,none⟩)),AV.int jI.w.time,bK jI.w.au,bj jI.w.ao,bE jI.w.calls,bI jI.w.seen,AV.val jI.lv],Own.row jI.lv 39 11 (jI.list.map Ev.cells),Own.box br 88 [bF code,AV.int (p+1+1+1)]] _ _ _ at hs
     have XX:=fZ code (p+1+1) (14)
     have XY:=fL code (p+1+1) (14) (by omega)
     try have XZ:=gu code (p+1+1) (n:=14) (by omega)
     generalize cX code (p+1+1) (14)=X0 at hs XX XY XZ
     refine hs.m fun hs=>?_
     refine hs.cW [0,1,2] (xq bs br code bB jI (p+1+1+1) (n+3) ED (by omega) (by omega) (by omega) X0 qA (by omega)) (aw .tt (aw .tt (aw .tt aP))) rfl (by decide) rfl fun X1 I a w EE hs=>?_
     obtain⟨pj,Aj⟩:=X1
     change St _ _ [Own.box bs 62 [AV.val (.pointer (some ⟨br,0,none⟩)),AV.int pj.w.time,bK pj.w.au,bj pj.w.ao,bE pj.w.calls,bI pj.w.seen,AV.val pj.lv],Own.row pj.lv 39 11 (pj.list.map Ev.cells),Own.box br 88 [bF code,AV.int (Aj)]] _ _ _ at hs
     replace EE:cB ((n+3)+240) pj∧0≤Aj∧Aj≤(((n+3)+240:Nat):Int):=EE
     obtain⟨X2,l63,u63⟩:=EE
     refine wpList_nil<|eI ?_
     refine hs.ko (pj,Aj) [0,1,2] rfl .nil (by(try dsimp only);exact⟨X2.mono (by omega),by first|omega|(dsimp only;omega)|(dsimp only;push_cast;omega)|(push_cast;omega)|simp,by first|omega|(dsimp only;omega)|(dsimp only;push_cast;omega)|(push_cast;omega)|simp⟩) rfl rfl
    ·skip
     refine St.cut (σ:=Bool) (64::65::66::[]) ⟨fun bb=>[(64,AV.bool bb)],fun bb=>[Own.box bs 62 [AV.val (.pointer (some ⟨br,0,none⟩)),AV.int s.w.time,bK s.w.au,bj s.w.ao,bE s.w.calls,bI s.w.seen,AV.val s.lv],Own.row s.lv 39 11 (s.list.map Ev.cells),Own.box br 88 [bF code,AV.int (p+1+1)]],fun bb=>True⟩ hs ?X3 ?X4
     case X3=>
      refine ai fun I a w hs=>?_
      refine nn ?_
      refine hs.cd (fun fq=>?_) fun fq=>?_
      ·skip
       refine wp_skip<|aG ?_
       exact hs.me (jZ==9) (by trivial)
      ·skip
       refine ai fun I a w hs=>?_
       refine nn ?_
       exact hs.me (jZ==10) (by trivial)
     case X4=>
      rintro bb I a w al hs
      dsimp only at hs
      refine hs.cd (fun fK=>?_) fun fK=>?_
      ·skip
       refine aW fun I a w hs=>?_
       refine hs.dZ [2] (eM br code (p+1+1) (24) (by omega) bB) (aw .tt (aw .c aP)) rfl (by decide) rfl fun I a w hs=>?_
       change St _ _ [Own.box bs 62 [AV.val (.pointer (some ⟨br,0,none⟩)),AV.int s.w.time,bK s.w.au,bj s.w.ao,bE s.w.calls,bI s.w.seen,AV.val s.lv],Own.row s.lv 39 11 (s.list.map Ev.cells),Own.box br 88 [bF code,AV.int (p+1+1+1)]] _ _ _ at hs
       have X5:=fZ code (p+1+1) (24)
       have X6:=fL code (p+1+1) (24) (by omega)
       try have X7:=gu code (p+1+1) (n:=24) (by omega)
       generalize cX code (p+1+1) (24)=X8 at hs X5 X6 X7
       refine hs.m fun hs=>?_
       refine hs.cW [0,1,2] (xq bs br code bB s (p+1+1+1) (n+3) (h.mono (by omega)) (by omega) (by omega) (by omega) X8 qA (by omega)) (aw .tt (aw .tt (aw .tt aP))) rfl (by decide) rfl fun X9 I a w EF hs=>?_
       obtain⟨pk,Ak⟩:=X9
       change St _ _ [Own.box bs 62 [AV.val (.pointer (some ⟨br,0,none⟩)),AV.int pk.w.time,bK pk.w.au,bj pk.w.ao,bE pk.w.calls,bI pk.w.seen,AV.val pk.lv],Own.row pk.lv 39 11 (pk.list.map Ev.cells),Own.box br 88 [bF code,AV.int (Ak)]] _ _ _ at hs
       replace EF:cB ((n+3)+240) pk∧0≤Ak∧Ak≤(((n+3)+240:Nat):Int):=EF
       obtain⟨Ya,l74,u74⟩:=EF
       refine wpList_nil<|eI ?_
       refine hs.ko (pk,Ak) [0,1,2] rfl .nil (by(try dsimp only);exact⟨Ya.mono (by omega),by first|omega|(dsimp only;omega)|(dsimp only;push_cast;omega)|(push_cast;omega)|simp,by first|omega|(dsimp only;omega)|(dsimp only;push_cast;omega)|(push_cast;omega)|simp⟩) rfl rfl
      ·skip
       refine ai fun I a w hs=>?_
       refine nn ?_
       refine hs.cd (fun uZ=>?_) fun uZ=>?_
       ·skip
        refine ai fun I a w hs=>?_
        refine hs.o (.bd jb (.k (.k aZ.nil))) fun hs=>?_
        refine hs.cW [0,1] (kg bs br s ⟨6,x9,0,0,0,0,0,0,0,0,0⟩ (n+2) (h.mono (by omega)) (by omega) (iJ)) (aw .tt (aw .tt aP)) rfl (by decide) rfl fun Yb I a w EG hs=>?_
        obtain⟨pn,b80⟩:=Yb
        change St _ _ [Own.box bs 62 [AV.val (.pointer (some ⟨br,0,none⟩)),AV.int pn.w.time,bK pn.w.au,bj pn.w.ao,bE pn.w.calls,bI pn.w.seen,AV.val pn.lv],Own.row pn.lv 39 11 (pn.list.map Ev.cells),Own.box br 88 [bF code,AV.int (p+1+1)]] _ _ _ at hs
        replace EG:cB ((n+2)+1) pn:=EG
        refine wpList_nil<|eI ?_
        refine hs.ko (pn,p+1+1) [0,1,2] rfl .nil (by(try dsimp only);exact⟨EG.mono (by omega),by first|omega|(dsimp only;omega)|(dsimp only;push_cast;omega)|(push_cast;omega)|simp,by first|omega|(dsimp only;omega)|(dsimp only;push_cast;omega)|(push_cast;omega)|simp⟩) rfl rfl
       ·skip
        refine St.cut (σ:=Bool) (81::82::83::[]) ⟨fun bb=>[(81,AV.bool bb)],fun bb=>[Own.box bs 62 [AV.val (.pointer (some ⟨br,0,none⟩)),AV.int s.w.time,bK s.w.au,bj s.w.ao,bE s.w.calls,bI s.w.seen,AV.val s.lv],Own.row s.lv 39 11 (s.list.map Ev.cells),Own.box br 88 [bF code,AV.int (p+1+1)]],fun bb=>True⟩ hs ?Yc ?Yd
        case Yc=>
         refine ai fun I a w hs=>?_
         refine nn ?_
         refine hs.cd (fun u5=>?_) fun u5=>?_
         ·skip
          refine wp_skip<|aG ?_
          exact hs.me (jZ==12) (by trivial)
         ·skip
          refine ai fun I a w hs=>?_
          refine nn ?_
          exact hs.me (jZ==13) (by trivial)
        case Yd=>
         rintro bb I a w al hs
         dsimp only at hs
         refine hs.cd (fun tp=>?_) fun tp=>?_
         ·skip
          refine ai fun I a w hs=>?_
          refine hs.o (.bd jb (.k (.k aZ.nil))) fun hs=>?_
          refine hs.cW [0,1] (kg bs br s ⟨7,x9,0,0,0,0,0,0,0,0,0⟩ (n+2) (h.mono (by omega)) (by omega) (iJ)) (aw .tt (aw .tt aP)) rfl (by decide) rfl fun Ye I a w EH hs=>?_
          obtain⟨po,b87⟩:=Ye
          change St _ _ [Own.box bs 62 [AV.val (.pointer (some ⟨br,0,none⟩)),AV.int po.w.time,bK po.w.au,bj po.w.ao,bE po.w.calls,bI po.w.seen,AV.val po.lv],Own.row po.lv 39 11 (po.list.map Ev.cells),Own.box br 88 [bF code,AV.int (p+1+1)]] _ _ _ at hs
          replace EH:cB ((n+2)+1) po:=EH
          refine wpList_nil<|eI ?_
          refine hs.ko (po,p+1+1) [0,1,2] rfl .nil (by(try dsimp only);exact⟨EH.mono (by omega),by first|omega|(dsimp only;omega)|(dsimp only;push_cast;omega)|(push_cast;omega)|simp,by first|omega|(dsimp only;omega)|(dsimp only;push_cast;omega)|(push_cast;omega)|simp⟩) rfl rfl
         ·skip
          refine St.cut (σ:=Bool) (88::89::90::[]) ⟨fun bb=>[(88,AV.bool bb)],fun bb=>[Own.box bs 62 [AV.val (.pointer (some ⟨br,0,none⟩)),AV.int s.w.time,bK s.w.au,bj s.w.ao,bE s.w.calls,bI s.w.seen,AV.val s.lv],Own.row s.lv 39 11 (s.list.map Ev.cells),Own.box br 88 [bF code,AV.int (p+1+1)]],fun bb=>True⟩ hs ?Yf ?Yg
          case Yf=>
           refine ai fun I a w hs=>?_
           refine nn ?_
           refine hs.cd (fun oY=>?_) fun oY=>?_
           ·skip
            refine wp_skip<|aG ?_
            exact hs.me (jZ==14) (by trivial)
           ·skip
            refine ai fun I a w hs=>?_
            refine nn ?_
            exact hs.me (jZ==15) (by trivial)
          case Yg=>
           rintro bb I a w al hs
           dsimp only at hs
           refine hs.cd (fun Yh=>?_) fun Yh=>?_
           ·skip
            refine cx fun I a w hs=>?_
            refine hs.dZ [2] (eM br code (p+1+1) (3) (by omega) bB) (aw .tt (aw .c aP)) rfl (by decide) rfl fun I a w hs=>?_
            change St _ _ [Own.box bs 62 [AV.val (.pointer (some ⟨br,0,none⟩)),AV.int s.w.time,bK s.w.au,bj s.w.ao,bE s.w.calls,bI s.w.seen,AV.val s.lv],Own.row s.lv 39 11 (s.list.map Ev.cells),Own.box br 88 [bF code,AV.int (p+1+1+1)]] _ _ _ at hs
            have Yi:=fZ code (p+1+1) (3)
            have Yj:=fL code (p+1+1) (3) (by omega)
            try have Yk:=gu code (p+1+1) (n:=3) (by omega)
            generalize cX code (p+1+1) (3)=Yl at hs Yi Yj Yk
            refine hs.o (.bd jb (.k (.k (.k aZ.nil)))) fun hs=>?_
            refine hs.cW [0,1] (kg bs br s ⟨9,x9,0,0,0,Yl,0,0,0,0,0⟩ (n+3) (h.mono (by omega)) (by omega) (iJ)) (aw .tt (aw .tt aP)) rfl (by decide) rfl fun Ym I a w EI hs=>?_
            obtain⟨jJ,b99⟩:=Ym
            change St _ _ [Own.box bs 62 [AV.val (.pointer (some ⟨br,0,none⟩)),AV.int jJ.w.time,bK jJ.w.au,bj jJ.w.ao,bE jJ.w.calls,bI jJ.w.seen,AV.val jJ.lv],Own.row jJ.lv 39 11 (jJ.list.map Ev.cells),Own.box br 88 [bF code,AV.int (p+1+1+1)]] _ _ _ at hs
            replace EI:cB ((n+3)+1) jJ:=EI
            refine aW fun I a w hs=>?_
            refine hs.dZ [2] (eM br code (p+1+1+1) (8) (by omega) bB) (aw .tt (aw .c aP)) rfl (by decide) rfl fun I a w hs=>?_
            change St _ _ [Own.box bs 62 [AV.val (.pointer (some ⟨br,0,none⟩)),AV.int jJ.w.time,bK jJ.w.au,bj jJ.w.ao,bE jJ.w.calls,bI jJ.w.seen,AV.val jJ.lv],Own.row jJ.lv 39 11 (jJ.list.map Ev.cells),Own.box br 88 [bF code,AV.int (p+1+1+1+1)]] _ _ _ at hs
            have Yn:=fZ code (p+1+1+1) (8)
            have Yo:=fL code (p+1+1+1) (8) (by omega)
            try have Yp:=gu code (p+1+1+1) (n:=8) (by omega)
            generalize cX code (p+1+1+1) (8)=Yq at hs Yn Yo Yp
            refine hs.cW [0,1,2] (Ly bs br code bB jJ (p+1+1+1+1) (n+4) EI (by omega) (by omega) (by omega) Yq (by omega)) (aw .tt (aw .tt aP)) rfl (by decide) rfl fun Yr I a w zT hs=>?_
            obtain⟨pq,Al⟩:=Yr
            change St _ _ [Own.box bs 62 [AV.val (.pointer (some ⟨br,0,none⟩)),AV.int pq.w.time,bK pq.w.au,bj pq.w.ao,bE pq.w.calls,bI pq.w.seen,AV.val pq.lv],Own.row pq.lv 39 11 (pq.list.map Ev.cells),Own.box br 88 [bF code,AV.int (Al)]] _ _ _ at hs
            replace zT:cB ((n+4)+60) pq∧0≤Al∧Al≤(((n+4)+60:Nat):Int):=zT
            obtain⟨Ys,aei,aej⟩:=zT
            refine wpList_nil<|eI ?_
            refine hs.ko (pq,Al) [0,1,2] rfl .nil (by(try dsimp only);exact⟨Ys.mono (by omega),by first|omega|(dsimp only;omega)|(dsimp only;push_cast;omega)|(push_cast;omega)|simp,by first|omega|(dsimp only;omega)|(dsimp only;push_cast;omega)|(push_cast;omega)|simp⟩) rfl rfl
           ·skip
            refine ai fun I a w hs=>?_
            refine nn ?_
            refine hs.cd (fun Yt=>?_) fun Yt=>?_
            ·skip
             refine aJ fun I a w hs=>?_
             refine hs.dZ [2] (eM br code (p+1+1) (3) (by omega) bB) (aw .tt (aw .c aP)) rfl (by decide) rfl fun I a w hs=>?_
             change St _ _ [Own.box bs 62 [AV.val (.pointer (some ⟨br,0,none⟩)),AV.int s.w.time,bK s.w.au,bj s.w.ao,bE s.w.calls,bI s.w.seen,AV.val s.lv],Own.row s.lv 39 11 (s.list.map Ev.cells),Own.box br 88 [bF code,AV.int (p+1+1+1)]] _ _ _ at hs
             have Yu:=fZ code (p+1+1) (3)
             have Yv:=fL code (p+1+1) (3) (by omega)
             try have Yw:=gu code (p+1+1) (n:=3) (by omega)
             generalize cX code (p+1+1) (3)=aek at hs Yu Yv Yw
             refine hs.o .si fun hs=>nn ?_
             refine hs.cd (fun JP=>?_) fun JP=>?_
             ·skip
              refine aW fun I a w hs=>?_
              refine hs.dZ [2] (eM br code (p+1+1+1) (2) (by omega) bB) (aw .tt (aw .c aP)) rfl (by decide) rfl fun I a w hs=>?_
              change St _ _ [Own.box bs 62 [AV.val (.pointer (some ⟨br,0,none⟩)),AV.int s.w.time,bK s.w.au,bj s.w.ao,bE s.w.calls,bI s.w.seen,AV.val s.lv],Own.row s.lv 39 11 (s.list.map Ev.cells),Own.box br 88 [bF code,AV.int (p+1+1+1+1)]] _ _ _ at hs
              have Et:=fZ code (p+1+1+1) (2)
              have Eu:=fL code (p+1+1+1) (2) (by omega)
              try have Ew:=gu code (p+1+1+1) (n:=2) (by omega)
              generalize cX code (p+1+1+1) (2)=Ex at hs Et Eu Ew
              refine hs.o (.bd jb (.k (.k aZ.nil))) fun hs=>?_
              refine hs.cW [0,1] (kg bs br s ⟨3,0,Ex,0,0,0,0,0,0,0,0⟩ (n+4) (h.mono (by omega)) (by omega) (iJ)) (aw .tt (aw .tt aP)) rfl (by decide) rfl fun Ey I a w tq hs=>?_
              obtain⟨iW,Xw⟩:=Ey
              change St _ _ [Own.box bs 62 [AV.val (.pointer (some ⟨br,0,none⟩)),AV.int iW.w.time,bK iW.w.au,bj iW.w.ao,bE iW.w.calls,bI iW.w.seen,AV.val iW.lv],Own.row iW.lv 39 11 (iW.list.map Ev.cells),Own.box br 88 [bF code,AV.int (p+1+1+1+1)]] _ _ _ at hs
              replace tq:cB ((n+4)+1) iW:=tq
              refine wpList_nil<|eI ?_
              refine hs.ko (iW,p+1+1+1+1) [0,1,2] rfl .nil (by(try dsimp only);exact⟨tq.mono (by omega),by first|omega|(dsimp only;omega)|(dsimp only;push_cast;omega)|(push_cast;omega)|simp,by first|omega|(dsimp only;omega)|(dsimp only;push_cast;omega)|(push_cast;omega)|simp⟩) rfl rfl
             ·skip
              refine wp_skip<|eI ?_
              refine hs.ko (s,p+1+1+1) [0,1,2] rfl .nil (by(try dsimp only);exact⟨h.mono (by omega),by first|omega|(dsimp only;omega)|(dsimp only;push_cast;omega)|(push_cast;omega)|simp,by first|omega|(dsimp only;omega)|(dsimp only;push_cast;omega)|(push_cast;omega)|simp⟩) rfl rfl
            ·skip
             refine St.cut (σ:=Bool) (123::124::125::[]) ⟨fun bb=>[(123,AV.bool bb)],fun bb=>[Own.box bs 62 [AV.val (.pointer (some ⟨br,0,none⟩)),AV.int s.w.time,bK s.w.au,bj s.w.ao,bE s.w.calls,bI s.w.seen,AV.val s.lv],Own.row s.lv 39 11 (s.list.map Ev.cells),Own.box br 88 [bF code,AV.int (p+1+1)]],fun bb=>True⟩ hs ?Yx ?Yy
             case Yx=>
              refine ai fun I a w hs=>?_
              refine nn ?_
              refine hs.cd (fun Yz=>?_) fun Yz=>?_
              ·skip
               refine wp_skip<|aG ?_
               exact hs.me (jZ==17) (by trivial)
              ·skip
               refine ai fun I a w hs=>?_
               refine nn ?_
               exact hs.me (jZ==18) (by trivial)
             case Yy=>
              rintro bb I a w al hs
              dsimp only at hs
              refine hs.cd (fun YA=>?_) fun YA=>?_
              ·skip
               refine az fun I a w hs=>?_
               refine hs.cW [0,1,2] (WQ bs br code bB s (p+1+1) (n+2) (h.mono (by omega)) (by omega) (by omega) (by omega)) (aw .tt aP) rfl (by decide) rfl fun YB I a w EJ hs=>?_
               obtain⟨pr,Am⟩:=YB
               change St _ _ [Own.box bs 62 [AV.val (.pointer (some ⟨br,0,none⟩)),AV.int pr.w.time,bK pr.w.au,bj pr.w.ao,bE pr.w.calls,bI pr.w.seen,AV.val pr.lv],Own.row pr.lv 39 11 (pr.list.map Ev.cells),Own.box br 88 [bF code,AV.int (Am)]] _ _ _ at hs
               replace EJ:cB ((n+2)+800) pr∧0≤Am∧Am≤(((n+2)+800:Nat):Int):=EJ
               obtain⟨YC,ael,aem⟩:=EJ
               refine wpList_nil<|eI ?_
               refine hs.ko (pr,Am) [0,1,2] rfl .nil (by(try dsimp only);exact⟨YC.mono (by omega),by first|omega|(dsimp only;omega)|(dsimp only;push_cast;omega)|(push_cast;omega)|simp,by first|omega|(dsimp only;omega)|(dsimp only;push_cast;omega)|(push_cast;omega)|simp⟩) rfl rfl
              ·skip
               refine az fun I a w hs=>?_
               refine hs.cW [0,1,2] (xr bs br code bB s (p+1+1) (n+2) (h.mono (by omega)) (by omega) (by omega) (by omega) 0 (by unfold eY;omega)) (aw .tt (aw .c aP)) rfl (by decide) rfl fun YD I a w Aa hs=>?_
               obtain⟨pt,An⟩:=YD
               change St _ _ [Own.box bs 62 [AV.val (.pointer (some ⟨br,0,none⟩)),AV.int pt.w.time,bK pt.w.au,bj pt.w.ao,bE pt.w.calls,bI pt.w.seen,AV.val pt.lv],Own.row pt.lv 39 11 (pt.list.map Ev.cells),Own.box br 88 [bF code,AV.int (An)]] _ _ _ at hs
               replace Aa:cB ((n+2)+8) pt∧0≤An∧An≤(((n+2)+8:Nat):Int):=Aa
               obtain⟨YE,l16,u16⟩:=Aa
               refine az fun I a w hs=>?_
               refine hs.cW [0,1,2] (xr bs br code bB pt (An) (n+10) YE (by omega) (by omega) (by omega) 1 (by unfold eY;omega)) (aw .tt (aw .c aP)) rfl (by decide) rfl fun YF I a w Ao hs=>?_
               obtain⟨jK,pw⟩:=YF
               change St _ _ [Own.box bs 62 [AV.val (.pointer (some ⟨br,0,none⟩)),AV.int jK.w.time,bK jK.w.au,bj jK.w.ao,bE jK.w.calls,bI jK.w.seen,AV.val jK.lv],Own.row jK.lv 39 11 (jK.list.map Ev.cells),Own.box br 88 [bF code,AV.int (pw)]] _ _ _ at hs
               replace Ao:cB ((n+10)+8) jK∧0≤pw∧pw≤(((n+10)+8:Nat):Int):=Ao
               obtain⟨YG,l18,u18⟩:=Ao
               refine aW fun I a w hs=>?_
               refine hs.dZ [2] (eM br code (pw) (30) (by omega) bB) (aw .tt (aw .c aP)) rfl (by decide) rfl fun I a w hs=>?_
               change St _ _ [Own.box bs 62 [AV.val (.pointer (some ⟨br,0,none⟩)),AV.int jK.w.time,bK jK.w.au,bj jK.w.ao,bE jK.w.calls,bI jK.w.seen,AV.val jK.lv],Own.row jK.lv 39 11 (jK.list.map Ev.cells),Own.box br 88 [bF code,AV.int (pw+1)]] _ _ _ at hs
               have YH:=fZ code (pw) (30)
               have YI:=fL code (pw) (30) (by omega)
               try have YJ:=gu code (pw) (n:=30) (by omega)
               generalize cX code (pw) (30)=YK at hs YH YI YJ
               refine hs.cW [0,1,2] (Ly bs br code bB jK (pw+1) (n+19) (YG.mono (by omega)) (by omega) (by omega) (by omega) YK (by omega)) (aw .tt (aw .tt aP)) rfl (by decide) rfl fun YL I a w EK hs=>?_
               obtain⟨px,Ap⟩:=YL
               change St _ _ [Own.box bs 62 [AV.val (.pointer (some ⟨br,0,none⟩)),AV.int px.w.time,bK px.w.au,bj px.w.ao,bE px.w.calls,bI px.w.seen,AV.val px.lv],Own.row px.lv 39 11 (px.list.map Ev.cells),Own.box br 88 [bF code,AV.int (Ap)]] _ _ _ at hs
               replace EK:cB ((n+19)+60) px∧0≤Ap∧Ap≤(((n+19)+60:Nat):Int):=EK
               obtain⟨YM,l25,u25⟩:=EK
               refine wpList_nil<|eI ?_
               refine hs.ko (px,Ap) [0,1,2] rfl .nil (by(try dsimp only);exact⟨YM.mono (by omega),by first|omega|(dsimp only;omega)|(dsimp only;push_cast;omega)|(push_cast;omega)|simp,by first|omega|(dsimp only;omega)|(dsimp only;push_cast;omega)|(push_cast;omega)|simp⟩) rfl rfl
end Go.Proofs.YtoeioeimmfpefaaGreat
