/- Part 45: rules of the proofs, contracts of functions, plain facts. -/
import Derived.Test.YtoeioeimmfpefaaGreatP41
set_option linter.unusedVariables false
set_option linter.unusedSimpArgs false
set_option maxRecDepth 100000
set_option maxHeartbeats 4000000
namespace Go.Proofs.YtoeioeimmfpefaaGreat
open Go Go.RowKit
attribute [local irreducible] wpList Code.wp Ok
set_option maxHeartbeats 4000000 in
theorem xq (bs br:Nat) (code:List UInt8) (bB:code.length≤1099511627776) (s:di) (p:Int) (n:Nat) (h:cB n s) (h0:0≤p) (h1:p≤n) (hn:n≤890000) (oa qA:Int) (hm:oa≤60):
 cL Tryz.prog 101 [AV.val (.pointer (some ⟨bs,0,none⟩)),AV.int oa,AV.int qA] [Own.box bs 62 [AV.val (.pointer (some ⟨br,0,none⟩)),AV.int s.w.time,bK s.w.au,bj s.w.ao,bE s.w.calls,bI s.w.seen,AV.val s.lv],Own.row s.lv 39 11 (s.list.map Ev.cells),Own.box br 88 [bF code,AV.int (p)]] (fun r:di×Int=>cB (n+240) r.1∧0≤r.2∧r.2≤((n+240:Nat):Int)) (fun r=>[Own.box bs 62 [AV.val (.pointer (some ⟨br,0,none⟩)),AV.int r.1.w.time,bK r.1.w.au,bj r.1.w.ao,bE r.1.w.calls,bI r.1.w.seen,AV.val r.1.lv],Own.row r.1.lv 39 11 (r.1.list.map Ev.cells),Own.box br 88 [bF code,AV.int (r.2)]]) (fun _=>AV.c9 []):=by
 refine cL.intro 60 Tryz.func101 rfl Tryz.ntmps101 rfl (by kernel_rfl) (fun W I a hs=>?_)
 refine az fun I a w hs=>?_
 refine nn<|wp_block ?_
 refine St.lo (σ:=Nat×di×Int) (run 54 6 []) ⟨fun⟨j,s1,p1⟩=>[(6,AV.int j)],fun⟨j,s1,p1⟩=>[Own.box bs 62 [AV.val (.pointer (some ⟨br,0,none⟩)),AV.int s1.w.time,bK s1.w.au,bj s1.w.ao,bE s1.w.calls,bI s1.w.seen,AV.val s1.lv],Own.row s1.lv 39 11 (s1.list.map Ev.cells),Own.box br 88 [bF code,AV.int (p1)]],fun⟨j,s1,p1⟩=>cB (n+4*j) s1∧0≤p1∧p1≤((n+4*j:Nat):Int)∧j≤60⟩ (fun⟨j,s1,p1⟩=>60-j) (0,s,p) hs ?aN ?aO
 case aN=>exact⟨h,h0,h1,Nat.zero_le _⟩
 case aO=>
  rintro⟨j,s1,p1⟩ I a w al hs
  obtain⟨gL,ny,zR,hj⟩:=al
  dsimp only at hs
  have ix:=gL.ao
  refine pS fun I a w hs=>?_
  refine nn ?_
  refine hs.cd (fun ae=>?_) fun ae=>?_
  ·simp only[B] at ae
   refine wp_skip<|aG<|wp_seq<|wp_block<|sr ?_
   refine hs.o (.bd jb (.k aZ.nil)) fun hs=>?_
   refine hs.alloc rfl oz jb fun b7 I a w hs=>?_
   refine hs.sb 3 fun hs=>?_
   refine nn ?_
   refine St.cut (σ:=Ev×Int) (run 34 23 []) ⟨fun⟨ev,p2⟩=>[],fun⟨ev,p2⟩=>[Own.box bs 62 [AV.val (.pointer (some ⟨br,0,none⟩)),AV.int s1.w.time,bK s1.w.au,bj s1.w.ao,bE s1.w.calls,bI s1.w.seen,AV.val s1.lv],Own.row s1.lv 39 11 (s1.list.map Ev.cells),Own.box br 88 [bF code,AV.int (p2)],Own.box b7 39 (ev:Ev).cells],fun⟨ev,p2⟩=>ev.uX∧0≤p2∧p2≤((n+4*j+3:Nat):Int)⟩ hs ?n6 ?n7
   case n6=>
    refine gi fun I a w hs=>?_
    refine hs.Ob 2 (E8 rfl rfl rfl) rfl rfl (eM br code p1 qA (by omega) bB) (aw .ag (aw .ag aP)) fun I a w hs=>?_
    have hq:∀G:Bool,∃p2:Int,(bif G then Own.box br 88 [bF code,AV.int (p1+1)] else Own.box br 88 [bF code,AV.int (p1)])=Own.box br 88 [bF code,AV.int (p2)]∧p1≤p2∧p2≤p1+1:=fun G=>by cases G;exact⟨p1,rfl,by omega,by first|omega|(dsimp only;omega)|(dsimp only;push_cast;omega)|(push_cast;omega)|simp⟩;exact⟨p1+1,rfl,by omega,by first|omega|(dsimp only;omega)|(dsimp only;push_cast;omega)|(push_cast;omega)|simp⟩
    obtain⟨p2,e2,KS,hp3⟩:=hq (decide (0<qA))
    change St _ _ [Own.box bs 62 [AV.val (.pointer (some ⟨br,0,none⟩)),AV.int s1.w.time,bK s1.w.au,bj s1.w.ao,bE s1.w.calls,bI s1.w.seen,AV.val s1.lv],Own.row s1.lv 39 11 (s1.list.map Ev.cells),(bif decide (0<qA) then Own.box br 88 [bF code,AV.int (p1+1)] else Own.box br 88 [bF code,AV.int (p1)]),Own.box b7 39 (⟨4,0,0,0,0,0,0,0,0,0,0⟩:Ev).cells] _ _ _ at hs
    rw[e2] at hs
    refine ai fun I a w hs=>?_
    refine nn ?_
    refine hs.cd (fun ah=>?_) fun ah=>?_
    ·skip
     refine aJ fun I a w hs=>?_
     refine hs.dZ [2] (eM br code (p2) (4) (by omega) bB) (aw .tt (aw .c aP)) rfl (by decide) rfl fun I a w hs=>?_
     change St _ _ [Own.box bs 62 [AV.val (.pointer (some ⟨br,0,none⟩)),AV.int s1.w.time,bK s1.w.au,bj s1.w.ao,bE s1.w.calls,bI s1.w.seen,AV.val s1.lv],Own.row s1.lv 39 11 (s1.list.map Ev.cells),Own.box br 88 [bF code,AV.int (p2+1)],Own.box b7 39 (⟨4,0,0,0,0,0,0,0,0,0,0⟩:Ev).cells] _ _ _ at hs
     have Wy:=fZ code (p2) (4)
     have Wz:=fL code (p2) (4) (by omega)
     try have WA:=gu code (p2) (n:=4) (by omega)
     generalize cX code (p2) (4)=x38 at hs Wy Wz WA
     refine ai fun I a w hs=>?_
     refine nn ?_
     refine hs.cd (fun aj=>?_) fun aj=>?_
     ·skip
      refine ai fun I a w hs=>?_
      refine wpList_nil<|eI<|aG ?_
      exact hs.me (⟨5,0,0,0,0,0,0,0,0,0,0⟩,p2+1) (⟨iJ,by first|omega|(dsimp only;omega)|(dsimp only;push_cast;omega)|(push_cast;omega)|simp,by first|omega|(dsimp only;omega)|(dsimp only;push_cast;omega)|(push_cast;omega)|simp⟩)
     ·skip
      refine ai fun I a w hs=>?_
      refine nn ?_
      refine hs.cd (fun aI=>?_) fun aI=>?_
      ·skip
       refine ai fun I a w hs=>?_
       refine wpList_nil<|eI<|aG ?_
       exact hs.me (⟨4,0,0,0,1,0,0,0,0,0,0⟩,p2+1) (⟨iJ,by first|omega|(dsimp only;omega)|(dsimp only;push_cast;omega)|(push_cast;omega)|simp,by first|omega|(dsimp only;omega)|(dsimp only;push_cast;omega)|(push_cast;omega)|simp⟩)
      ·skip
       refine hs.dp 10 (by kernel_rfl) (by kernel_rfl) (by kernel_rfl) ?_
       simp only[List.take_succ_cons,List.take_zero,List.drop_succ_cons,List.drop_zero]
       refine mK ?_
       refine .nil ?_
       intro I a w hs
       refine hs.dZ [2] (eM br code (p2+1) (s1.w.ao.length:Int) (by omega) bB) (aw .tt (aw .tt aP)) rfl (by decide) rfl fun I a w hs=>?_
       refine ai fun I a w hs=>?_
       refine wpList_nil ?_
       change St _ _ [Own.box bs 62 [AV.val (.pointer (some ⟨br,0,none⟩)),AV.int s1.w.time,bK s1.w.au,bj s1.w.ao,bE s1.w.calls,bI s1.w.seen,AV.val s1.lv],Own.row s1.lv 39 11 (s1.list.map Ev.cells),Own.box br 88 [bF code,AV.int (p2+1+1)],Own.box b7 39 (⟨4,0,0,cX code (p2+1) (s1.w.ao.length:Int),0,0,0,0,0,0,0⟩:Ev).cells] _ _ _ at hs
       have hw:=fL code (p2+1) (s1.w.ao.length:Int) (by omega)
       generalize cX code (p2+1) (s1.w.ao.length:Int)=xw at hs hw
       refine eI<|aG ?_
       exact hs.me (⟨4,0,0,xw,0,0,0,0,0,0,0⟩,p2+1+1) (⟨iJ,by first|omega|(dsimp only;omega)|(dsimp only;push_cast;omega)|(push_cast;omega)|simp,by first|omega|(dsimp only;omega)|(dsimp only;push_cast;omega)|(push_cast;omega)|simp⟩)
    ·skip
     refine wp_skip<|aG ?_
     exact hs.me (⟨4,0,0,0,0,0,0,0,0,0,0⟩,p2) (⟨iJ,by first|omega|(dsimp only;omega)|(dsimp only;push_cast;omega)|(push_cast;omega)|simp,by first|omega|(dsimp only;omega)|(dsimp only;push_cast;omega)|(push_cast;omega)|simp⟩)
   case n7=>
    rintro⟨ev,p2⟩ I a w al hs
    obtain⟨Eg,Ab,Ac⟩:=al
    dsimp only at hs
    refine ai fun I a w hs=>?_
    refine hs.cW [0,1] (kg bs br s1 ev (n+4*j+3) (gL.mono (by omega)) (by omega) (Eg)) (aw .tt (aw .tt aP)) rfl (by decide) rfl fun WB I a w Eh hs=>?_
    obtain⟨oZ,b59⟩:=WB
    change St _ _ [Own.box bs 62 [AV.val (.pointer (some ⟨br,0,none⟩)),AV.int oZ.w.time,bK oZ.w.au,bj oZ.w.ao,bE oZ.w.calls,bI oZ.w.seen,AV.val oZ.lv],Own.row oZ.lv 39 11 (oZ.list.map Ev.cells),Own.box br 88 [bF code,AV.int (p2)],Own.box b7 39 (ev:Ev).cells] _ _ _ at hs
    replace Eh:cB ((n+4*j+3)+1) oZ:=Eh
    refine aB fun I a w hs=>?_
    refine nn ?_
    have hs:=hs.drop 3
    exact hs.ag (j+1,oZ,p2) (⟨Eh.mono (by omega),by first|omega|(dsimp only;omega)|(dsimp only;push_cast;omega)|(push_cast;omega)|simp,by first|omega|(dsimp only;omega)|(dsimp only;push_cast;omega)|(push_cast;omega)|simp,by first|omega|(dsimp only;omega)|(dsimp only;push_cast;omega)|(push_cast;omega)|simp⟩)
  ·skip
   refine wp_exit<|aF<|aF<|aY ?_
   refine hs.ko (s1,p1) [0,1,2] rfl .nil (by(try dsimp only);exact⟨gL.mono (by omega),by first|omega|(dsimp only;omega)|(dsimp only;push_cast;omega)|(push_cast;omega)|simp,by first|omega|(dsimp only;omega)|(dsimp only;push_cast;omega)|(push_cast;omega)|simp⟩) rfl rfl
set_option maxHeartbeats 4000000 in
theorem Ly (bs br:Nat) (code:List UInt8) (bB:code.length≤1099511627776) (s:di) (p:Int) (n:Nat) (h:cB n s) (h0:0≤p) (h1:p≤n) (hn:n≤890000) (oa:Int) (hm:oa≤30):
 cL Tryz.prog 102 [AV.val (.pointer (some ⟨bs,0,none⟩)),AV.int oa] [Own.box bs 62 [AV.val (.pointer (some ⟨br,0,none⟩)),AV.int s.w.time,bK s.w.au,bj s.w.ao,bE s.w.calls,bI s.w.seen,AV.val s.lv],Own.row s.lv 39 11 (s.list.map Ev.cells),Own.box br 88 [bF code,AV.int (p)]] (fun r:di×Int=>cB (n+60) r.1∧0≤r.2∧r.2≤((n+60:Nat):Int)) (fun r=>[Own.box bs 62 [AV.val (.pointer (some ⟨br,0,none⟩)),AV.int r.1.w.time,bK r.1.w.au,bj r.1.w.ao,bE r.1.w.calls,bI r.1.w.seen,AV.val r.1.lv],Own.row r.1.lv 39 11 (r.1.list.map Ev.cells),Own.box br 88 [bF code,AV.int (r.2)]]) (fun _=>AV.c9 []):=by
 refine cL.intro 33 Tryz.func102 rfl Tryz.ntmps102 rfl (by kernel_rfl) (fun W I a hs=>?_)
 refine az fun I a w hs=>?_
 refine nn<|wp_block ?_
 refine St.lo (σ:=Nat×di×Int) (run 29 4 []) ⟨fun⟨j,s1,p1⟩=>[(4,AV.int j)],fun⟨j,s1,p1⟩=>[Own.box bs 62 [AV.val (.pointer (some ⟨br,0,none⟩)),AV.int s1.w.time,bK s1.w.au,bj s1.w.ao,bE s1.w.calls,bI s1.w.seen,AV.val s1.lv],Own.row s1.lv 39 11 (s1.list.map Ev.cells),Own.box br 88 [bF code,AV.int (p1)]],fun⟨j,s1,p1⟩=>cB (n+2*j) s1∧0≤p1∧p1≤((n+2*j:Nat):Int)∧j≤30⟩ (fun⟨j,s1,p1⟩=>30-j) (0,s,p) hs ?aN ?aO
 case aN=>exact⟨h,h0,h1,Nat.zero_le _⟩
 case aO=>
  rintro⟨j,s1,p1⟩ I a w al hs
  obtain⟨gL,ny,zR,hj⟩:=al
  dsimp only at hs
  have ix:=gL.ao
  refine pS fun I a w hs=>?_
  refine nn ?_
  refine hs.cd (fun ae=>?_) fun ae=>?_
  ·simp only[B] at ae
   refine wp_skip<|aG<|wp_seq<|wp_block ?_
   refine hs.vT 13 _ [([],none),([],none),([],none),([],none),([0],none),([],none),([],none),([],none),([],none),([0],none),([],none),([2],some (2,[])),([],none)] rfl (by kernel_rfl) (by kernel_rfl) rfl ?_
   simp only[List.take_succ_cons,List.take_zero]
   refine de ?_
   refine .r [0] (.lb 0) ?_
   refine de ?_
   refine .r [0] (.lb 0) ?_
   refine bz ?_
   refine aV.sk 2 rfl rfl (eM br code p1 (s1.w.ao.length:Int) (by omega) bB) (aw .tt (aw .tt aP)) ?_
   refine .o (.bd jb (.k (.k aZ.nil))) ?_
   refine .nil ?_
   intro I a w hs
   change St _ _ [Own.box bs 62 [AV.val (.pointer (some ⟨br,0,none⟩)),AV.int s1.w.time,bK s1.w.au,bj s1.w.ao,bE s1.w.calls,bI s1.w.seen,AV.val s1.lv],Own.row s1.lv 39 11 (s1.list.map Ev.cells),Own.box br 88 [bF code,AV.int (p1+1)]] _ _ _ at hs
   have WC:=fL code (p1) ((s1.w.ao.length:Int)) (by omega)
   generalize cX code (p1) ((s1.w.ao.length:Int))=WD at hs WC
   show wpList _ _ _ _ _ _
   refine hs.cW [0,1] (kg bs br s1 ⟨4,0,0,WD,0,0,0,0,0,0,0⟩ (n+2*j+1) (gL.mono (by omega)) (by omega) (iJ)) (aw .tt (aw .tt aP)) rfl (by decide) rfl fun WE I a w Ei hs=>?_
   obtain⟨o1,b32⟩:=WE
   change St _ _ [Own.box bs 62 [AV.val (.pointer (some ⟨br,0,none⟩)),AV.int o1.w.time,bK o1.w.au,bj o1.w.ao,bE o1.w.calls,bI o1.w.seen,AV.val o1.lv],Own.row o1.lv 39 11 (o1.list.map Ev.cells),Own.box br 88 [bF code,AV.int (p1+1)]] _ _ _ at hs
   replace Ei:cB ((n+2*j+1)+1) o1:=Ei
   refine aB fun I a w hs=>?_
   refine nn ?_
   exact hs.ag (j+1,o1,p1+1) (⟨Ei.mono (by omega),by first|omega|(dsimp only;omega)|(dsimp only;push_cast;omega)|(push_cast;omega)|simp,by first|omega|(dsimp only;omega)|(dsimp only;push_cast;omega)|(push_cast;omega)|simp,by first|omega|(dsimp only;omega)|(dsimp only;push_cast;omega)|(push_cast;omega)|simp⟩)
  ·skip
   refine wp_exit<|aF<|aF<|aY ?_
   refine hs.ko (s1,p1) [0,1,2] rfl .nil (by(try dsimp only);exact⟨gL.mono (by omega),by first|omega|(dsimp only;omega)|(dsimp only;push_cast;omega)|(push_cast;omega)|simp,by first|omega|(dsimp only;omega)|(dsimp only;push_cast;omega)|(push_cast;omega)|simp⟩) rfl rfl
set_option maxHeartbeats 4000000 in
theorem xr (bs br:Nat) (code:List UInt8) (bB:code.length≤1099511627776) (s:di) (p:Int) (n:Nat) (h:cB n s) (h0:0≤p) (h1:p≤n) (hn:n≤890000) (aC:Int) (hc:eY aC):
 cL Tryz.prog 49 [AV.val (.pointer (some ⟨bs,0,none⟩)),AV.int aC] [Own.box bs 62 [AV.val (.pointer (some ⟨br,0,none⟩)),AV.int s.w.time,bK s.w.au,bj s.w.ao,bE s.w.calls,bI s.w.seen,AV.val s.lv],Own.row s.lv 39 11 (s.list.map Ev.cells),Own.box br 88 [bF code,AV.int (p)]] (fun r:di×Int=>cB (n+8) r.1∧0≤r.2∧r.2≤((n+8:Nat):Int)) (fun r=>[Own.box bs 62 [AV.val (.pointer (some ⟨br,0,none⟩)),AV.int r.1.w.time,bK r.1.w.au,bj r.1.w.ao,bE r.1.w.calls,bI r.1.w.seen,AV.val r.1.lv],Own.row r.1.lv 39 11 (r.1.list.map Ev.cells),Own.box br 88 [bF code,AV.int (r.2)]]) (fun _=>AV.c9 []):=by
 refine cL.intro 58 Tryz.func49 rfl Tryz.ntmps49 rfl (by kernel_rfl) (fun W I a hs=>?_)
 refine St.cut (σ:=di×Int) (run 50 4 []) ⟨fun⟨s2,p2⟩=>[],fun⟨s2,p2⟩=>[Own.box bs 62 [AV.val (.pointer (some ⟨br,0,none⟩)),AV.int s2.w.time,bK s2.w.au,bj s2.w.ao,bE s2.w.calls,bI s2.w.seen,AV.val s2.lv],Own.row s2.lv 39 11 (s2.list.map Ev.cells),Own.box br 88 [bF code,AV.int (p2)]],fun⟨s2,p2⟩=>cB (n+6) s2∧0≤p2∧p2≤((n+6:Nat):Int)⟩ hs ?WG ?WH
 case WG=>
  refine cx fun I a w hs=>?_
  refine hs.o (.cl (zV s.w.calls aC)) fun hs=>?_
  refine hs.o .vH fun hs=>nn ?_
  refine hs.cd (fun ae=>?_) fun ae=>?_
  ·skip
   refine wp_seq ?_
   have hs:=hs.gN
   refine hs.eT [([],none),([],none),([],none),([],none),([0],none),([2],some (2,[])),([],none),([],none),([],none),([],none),([0],none),([2],some (2,[])),([],none),([],none),([],none),([],none),([0],none),([2],some (2,[])),([],none),([],none),([],none),([],none),([],none),([0],none),([2],some (2,[])),([],none),([3],some (3,[4])),([3],some (3,[4]))] (by kernel_rfl) (by kernel_rfl) rfl ?_
   refine de ?_
   refine .r [0] (.lb 0) ?_
   refine aV.sk 2 rfl rfl (eM br code p 2 (by omega) bB) (aw .tt (aw .c aP)) ?_
   refine .o (jM .c .tt (fun _=>by have h9:=fL code p 2 (by omega);omega)) ?_
   refine du ?_
   refine .r [0] (.lb 0) ?_
   refine aV.sk 2 rfl rfl (eM br code (p+1) 6 (by omega) bB) (aw .tt (aw .c aP)) ?_
   refine .o (.li (([0,2,cX code (p+1) 6]:List Int).map xU) qS (.v (.v (.v .nil)))) ?_
   refine du ?_
   refine .r [0] (.lb 0) ?_
   refine aV.sk 2 rfl rfl (eM br code (p+1+1) 3 (by omega) bB) (aw .tt (aw .c aP)) ?_
   refine .o ((by first|exact eZ il fT .tt .tt (fun _=>by have h9:=tm code (p+1+1) (n:=3) (by omega);(try simp);omega)|exact iM il fT .tt .tt (fun _=>by have h9:=tm code (p+1+1) (n:=3) (by omega);(try simp);omega)|exact iX il fT .tt .tt (fun _=>by have h9:=tm code (p+1+1) (n:=3) (by omega);(try simp);omega))) ?_
   refine de ?_
   refine .r [0] (.lb 0) ?_
   refine aV.sk 2 rfl rfl (eM br code (p+1+1+1) 90 (by omega) bB) (aw .tt (aw .c aP)) ?_
   refine .o (.bd jb (.k (.k (.k (.k (.k aZ.nil)))))) ?_
   refine aV.alloc 3 rfl rfl oz jb<|aV.pL 3 rfl oz rfl .tt rfl rfl<|.nil ?_
   intro I a w hs
   obtain⟨b4,hs⟩:=hs.nw (d:=4) 3 rfl rfl
   change St _ _ [Own.box bs 62 [AV.val (.pointer (some ⟨br,0,none⟩)),AV.int s.w.time,bK s.w.au,bj s.w.ao,bE s.w.calls,bI s.w.seen,AV.val s.lv],Own.row s.lv 39 11 (s.list.map Ev.cells),Own.box br 88 [bF code,AV.int (p+1+1+1+1)],Own.box b4 39 (⟨1,0,aC,0,0,0,1+cX code p 2,ab [0,2,cX code (p+1) 6] (cX code (p+1+1) 3).toNat,0,0,cX code (p+1+1+1) 90⟩:Ev).cells] _ _ _ at hs
   have hA:eY (ab [0,2,cX code (p+1) 6] (cX code (p+1+1) 3).toNat):=VW (z7 (fZ ..) (fL code (p+1) 6 (by omega)).2)
   have hv:=fL code (p+1+1+1) 90 (by omega)
   have hca:=fL code p 2 (by omega)
   obtain⟨ca,WI⟩:∃ca,ca=1+cX code p 2:=⟨_,rfl⟩
   rw[←WI] at hs
   generalize ab [0,2,cX code (p+1) 6] (cX code (p+1+1) 3).toNat=av at hs hA
   generalize cX code (p+1+1+1) 90=vv at hs hv
   refine aG ?_
   refine St.cut (σ:=Ev×Int) (run 12 39 []) ⟨fun⟨ev,p3⟩=>[],fun⟨ev,p3⟩=>[Own.box bs 62 [AV.val (.pointer (some ⟨br,0,none⟩)),AV.int s.w.time,bK s.w.au,bj s.w.ao,bE s.w.calls,bI s.w.seen,AV.val s.lv],Own.row s.lv 39 11 (s.list.map Ev.cells),Own.box br 88 [bF code,AV.int (p3)],Own.box b4 39 (ev:Ev).cells],fun⟨ev,p3⟩=>ev.uX∧0≤p3∧p3≤((n+5:Nat):Int)⟩ hs ?xg ?xh
   case xg=>
    refine aB fun I a w hs=>?_
    refine nn ?_
    refine hs.cd (fun ah=>?_) fun ah=>?_
    ·skip
     refine kq fun I a w hs=>?_
     refine hs.dZ [2] (eM br code (p+1+1+1+1) (6) (by omega) bB) (aw .tt (aw .c aP)) rfl (by decide) rfl fun I a w hs=>?_
     change St _ _ [Own.box bs 62 [AV.val (.pointer (some ⟨br,0,none⟩)),AV.int s.w.time,bK s.w.au,bj s.w.ao,bE s.w.calls,bI s.w.seen,AV.val s.lv],Own.row s.lv 39 11 (s.list.map Ev.cells),Own.box br 88 [bF code,AV.int (p+1+1+1+1+1)],Own.box b4 39 (⟨1,0,aC,0,0,0,ca,0,2,0,0⟩:Ev).cells] _ _ _ at hs
     have WJ:=fZ code (p+1+1+1+1) (6)
     have WK:=fL code (p+1+1+1+1) (6) (by omega)
     try have WL:=gu code (p+1+1+1+1) (n:=6) (by omega)
     generalize cX code (p+1+1+1+1) (6)=WM at hs WJ WK WL
     refine ai fun I a w hs=>?_
     refine nn ?_
     exact hs.me (⟨1,0,aC,0,0,0,ca,0,2,WM,0⟩,p+1+1+1+1+1) (by first|exact⟨iJ (h3:=hc),by first|omega|(dsimp only;omega)|(dsimp only;push_cast;omega)|(push_cast;omega)|simp,by first|omega|(dsimp only;omega)|(dsimp only;push_cast;omega)|(push_cast;omega)|simp⟩|exact⟨iJ (h3:=hc) (h8:=hA),by first|omega|(dsimp only;omega)|(dsimp only;push_cast;omega)|(push_cast;omega)|simp,by first|omega|(dsimp only;omega)|(dsimp only;push_cast;omega)|(push_cast;omega)|simp⟩)
    ·skip
     refine wp_skip<|aG ?_
     exact hs.me (⟨1,0,aC,0,0,0,ca,av,0,0,vv⟩,p+1+1+1+1) (by first|exact⟨iJ (h3:=hc),by first|omega|(dsimp only;omega)|(dsimp only;push_cast;omega)|(push_cast;omega)|simp,by first|omega|(dsimp only;omega)|(dsimp only;push_cast;omega)|(push_cast;omega)|simp⟩|exact⟨iJ (h3:=hc) (h8:=hA),by first|omega|(dsimp only;omega)|(dsimp only;push_cast;omega)|(push_cast;omega)|simp,by first|omega|(dsimp only;omega)|(dsimp only;push_cast;omega)|(push_cast;omega)|simp⟩)
   case xh=>
    rintro⟨ev,p3⟩ I a w al hs
    obtain⟨Eg,hp6,hp7⟩:=al
    dsimp only at hs
    refine ai fun I a w hs=>?_
    refine hs.cW [0,1] (kg bs br s ev (n+5) (h.mono (by omega)) (by omega) (Eg)) (aw .tt (aw .tt aP)) rfl (by decide) rfl fun WN I a w Ad hs=>?_
    obtain⟨o3,b53⟩:=WN
    change St _ _ [Own.box bs 62 [AV.val (.pointer (some ⟨br,0,none⟩)),AV.int o3.w.time,bK o3.w.au,bj o3.w.ao,bE o3.w.calls,bI o3.w.seen,AV.val o3.lv],Own.row o3.lv 39 11 (o3.list.map Ev.cells),Own.box br 88 [bF code,AV.int (p3)],Own.box b4 39 (ev:Ev).cells] _ _ _ at hs
    replace Ad:cB ((n+5)+1) o3:=Ad
    refine nn ?_
    have hs:=hs.drop 3
    exact hs.me (o3,p3) (by first|exact⟨Ad,by first|omega|(dsimp only;omega)|(dsimp only;push_cast;omega)|(push_cast;omega)|simp,by first|omega|(dsimp only;omega)|(dsimp only;push_cast;omega)|(push_cast;omega)|simp⟩|exact⟨h.mono (by omega),by first|omega|(dsimp only;omega)|(dsimp only;push_cast;omega)|(push_cast;omega)|simp,by first|omega|(dsimp only;omega)|(dsimp only;push_cast;omega)|(push_cast;omega)|simp⟩)
  ·skip
   refine wp_skip<|aG ?_
   have hs:=hs.drop 3
   exact hs.me (s,p) (by first|exact⟨Ad,by first|omega|(dsimp only;omega)|(dsimp only;push_cast;omega)|(push_cast;omega)|simp,by first|omega|(dsimp only;omega)|(dsimp only;push_cast;omega)|(push_cast;omega)|simp⟩|exact⟨h.mono (by omega),by first|omega|(dsimp only;omega)|(dsimp only;push_cast;omega)|(push_cast;omega)|simp,by first|omega|(dsimp only;omega)|(dsimp only;push_cast;omega)|(push_cast;omega)|simp⟩)
 case WH=>
  rintro⟨s2,p2⟩ I a w al hs
  obtain⟨jn,Ab,Ac⟩:=al
  dsimp only at hs
  refine ai fun I a w hs=>?_
  refine hs.o (.bd jb (.k (.k aZ.nil))) fun hs=>?_
  refine hs.cW [0,1] (kg bs br s2 ⟨2,0,aC,0,0,0,0,0,0,0,0⟩ (n+6) jn (by omega) (iJ (h3:=hc))) (aw .tt (aw .tt aP)) rfl (by decide) rfl fun WO I a w Ej hs=>?_
  obtain⟨o4,b57⟩:=WO
  change St _ _ [Own.box bs 62 [AV.val (.pointer (some ⟨br,0,none⟩)),AV.int o4.w.time,bK o4.w.au,bj o4.w.ao,bE o4.w.calls,bI o4.w.seen,AV.val o4.lv],Own.row o4.lv 39 11 (o4.list.map Ev.cells),Own.box br 88 [bF code,AV.int (p2)]] _ _ _ at hs
  replace Ej:cB ((n+6)+1) o4:=Ej
  refine wpList_nil ?_
  refine hs.ko (o4,p2) [0,1,2] rfl .nil (by(try dsimp only);exact⟨Ej.mono (by omega),by first|omega|(dsimp only;omega)|(dsimp only;push_cast;omega)|(push_cast;omega)|simp,by first|omega|(dsimp only;omega)|(dsimp only;push_cast;omega)|(push_cast;omega)|simp⟩) rfl rfl
end Go.Proofs.YtoeioeimmfpefaaGreat
