/- Part 35: contracts of functions, plain facts. -/
import Derived.Test.YtjepcfpkclegdaaGreatP28
import Derived.Test.YtjepcfpkclegdaaGreatP30
import Derived.Test.YtjepcfpkclegdaaGreatP31
import Derived.Test.YtjepcfpkclegdaaGreatP32
import Derived.Test.YtjepcfpkclegdaaGreatP33
set_option linter.unusedVariables false
set_option linter.unusedSimpArgs false
set_option maxRecDepth 100000
set_option maxHeartbeats 4000000
namespace Go.Proofs.YtjepcfpkclegdaaGreat
open Go Go.RowKit
attribute [local irreducible] wpList Code.wp Ok
theorem RE (x:aE) (e:Ev) (hg:cx x) (ht:x.time<=999999):
 Fn Tryz.prog 68 [x.av,e.av] (AV.dx [(ez x e).1.av,AV.bool (ez x e).2]):=by
 refine Fn.go 60 Tryz.func68 Tryz.ntmps68 (λW I a U=>?_)
 have zb:=hg.time
 have uh:=hg.later
 have Jn:aE.time {x with time:=x.time+1}<=1000000:=by show x.time+1<=1000000;omega
 refine sr<|U.box rfl .tt λb2 I a w U=>U.o .bp λU=>U.alloc rfl df dz λb4 I a w U=>?_
 refine FX λI a w U=>?_
 refine U.cd (λae=>?_) λae=>?_
 ·refine aF λI a w U=>?_
  refine U.o (.c2 (adw {x with time:=x.time+1} e uh Jn)) λU=>?_
  refine aU λI a w U=>?_
  refine U.ret rfl (.cons (.sx 1) (.cons (.t rfl) aX.nil)) ?_
  exact(by rw[abJ ae];rfl)
 ·refine mA λI a w U=>?_
  refine U.cd (λah=>?_) λah=>?_
  ·refine aF λI a w U=>?_
   refine U.o (.c2 (adv {x with time:=x.time+1} e uh Jn)) λU=>?_
   refine aU λI a w U=>?_
   refine U.ret rfl (.cons (.sx 1) (.cons (.t rfl) aX.nil)) ?_
   exact(by rw[abK ae ah];rfl)
  ·refine aF λI a w U=>?_
   refine U.o (.cl (jM ..)) λU=>?_
   refine bt λI a w U=>?_
   refine U.q .F (.cl (rP ..)) λU=>?_
   refine aI λI a w U=>?_
   refine U.cd (λal=>?_) λal=>?_
   ·refine aI λI a w U=>?_
    refine U.ret rfl (.cons (.sx 1) (.cons (.t rfl) aX.nil)) ?_
    exact(by rw[abL ae ah al];rfl)
   ·refine aF λI a w U=>?_
    refine U.o (.c2 (adj {x with time:=x.time+1} e uh Jn (Ye al))) λU=>?_
    refine aU λI a w U=>?_
    refine U.ret rfl (.cons (.sx 1) (.cons (.t rfl) aX.nil)) ?_
    exact(by rw[abM ae ah al];rfl)
theorem nd (bs br:Nat) (s:dR) (e:Ev) (n:Nat) (h:cO n s) (hn:n<=900000) (he:e.yg):
 c7 Tryz.prog 109 [AV.val (.pointer (some ⟨bs,0,none⟩)),e.av] [Own.box bs 75 [AV.val (.pointer (some ⟨br,0,none⟩)),AV.int s.w.time,bR s.w.ax,bq s.w.ar,bK s.w.calls,bQ s.w.seen,AV.val s.lv],Own.row s.lv 52 11 (s.list.map Ev.cells)] (λr:dR×Bool=>cO (n+1) r.1) (λr=>[Own.box bs 75 [AV.val (.pointer (some ⟨br,0,none⟩)),AV.int r.1.w.time,bR r.1.w.ax,bq r.1.w.ar,bK r.1.w.calls,bQ r.1.w.seen,AV.val r.1.lv],Own.row r.1.lv 52 11 (r.1.list.map Ev.cells)]) (λr=>AV.bool r.2):=by
 refine c7.intro 32 Tryz.func109 rfl Tryz.ntmps109 rfl (by kernel_rfl) (λW I a U=>?_)
 have hle:=h.len
 have htm:=h.time
 refine aA λI a w U=>?_
 have U:=U.fT
 refine U.eo [([],none),([],none),([],none),([0],none),([],none),([],none),([],none),([],none),([],none),([2],some (2,[5])),([2],some (2,[5])),([],none)] (by kernel_rfl) (by kernel_rfl) rfl ?_
 refine cD ?_
 refine .r [0] (.ls 0) ?_
 refine bn ?_
 refine .o (bY (RE s.w e h.reach.aW (by omega)) (aw (.t rfl) (aw (.t rfl) aL))) ?_
 refine cD ?_
 refine aS.alloc 2 rfl rfl df dz<|aS.mz 2 rfl df rfl .tt rfl rfl ?_
 refine bn ?_
 refine .nil ?_
 intro I a w U
 obtain⟨b5,U⟩:=U.lC (d:=5) 2 rfl rfl
 obtain⟨I,U⟩:=U.fb 2 5
 refine ai λI a w U=>?_
 refine U.cd (λae=>?_) λae=>?_
 ·refine bt λI a w U=>?_
  refine U.rv 0 df .tt .tt rfl rfl rfl λa w U=>?_
  refine zt ?_
  refine U.eo [([],none),([],none),([],none),([],none),([0],none),([],none),([],none),([1],some (1,[28])),([],none),([],none),([0],some (0,[28]))] (by kernel_rfl) (by kernel_rfl) rfl ?_
  refine dq ?_
  refine .r [0] (.lb 0) ?_
  refine bn ?_
  refine .o (.li [e.cells] L0 (.u .nil)) ?_
  refine aS.Fw 1 rfl rfl jL iH rfl .tt .r (by simp;omega) ?_
  refine bT ?_
  refine aS.B9 0 rfl U0 .tt rfl rfl<|.nil ?_
  intro I a w U
  change St _ _ [Own.box bs 75 [AV.val (.pointer (some ⟨br,0,none⟩)),AV.int (ez s.w e).1.time,bR (ez s.w e).1.ax,bq (ez s.w e).1.ar,bK (ez s.w e).1.calls,bQ (ez s.w e).1.seen,AV.val (a.tmps.getD 28 undef)],Own.row (a.tmps.getD 28 undef) 52 11 (s.list.map Ev.cells++[e.cells]),_] _ _ _ at U
  generalize a.tmps.getD 28 undef=lv at U
  rw[show s.list.map Ev.cells++[e.cells]=(s.list++[e]).map Ev.cells by simp] at U
  refine aA λI a w U=>?_
  refine U.de ((⟨(ez s.w e).1,s.list++[e],lv⟩:dR),(ez s.w e).2) [0,1] rfl (.cons (.t rfl) .nil) (h.abS he ae lv) rfl rfl
 ·refine aA λI a w U=>?_
  refine U.de (s,(ez s.w e).2) [0,1] rfl (.cons (.t rfl) .nil) (h.mono (by omega)) rfl rfl
theorem Bu (bs br:Nat) (code:List UInt8) (bB:code.length<=1099511627776) (s:dR) (p:Int) (n:Nat) (h:cO n s) (h0:0<=p) (h1:p<=n) (hn:n<=890000) (rm uu:Int) (hm:rm<=60):
 c7 Tryz.prog 108 [AV.val (.pointer (some ⟨bs,0,none⟩)),AV.int rm,AV.int uu] [Own.box bs 75 [AV.val (.pointer (some ⟨br,0,none⟩)),AV.int s.w.time,bR s.w.ax,bq s.w.ar,bK s.w.calls,bQ s.w.seen,AV.val s.lv],Own.row s.lv 52 11 (s.list.map Ev.cells),Own.box br 95 [bE code,AV.int (p)]] (λr:dR×Int=>cO (n+240) r.1/\0<=r.2/\r.2<=((n+240:Nat):Int)) (λr=>[Own.box bs 75 [AV.val (.pointer (some ⟨br,0,none⟩)),AV.int r.1.w.time,bR r.1.w.ax,bq r.1.w.ar,bK r.1.w.calls,bQ r.1.w.seen,AV.val r.1.lv],Own.row r.1.lv 52 11 (r.1.list.map Ev.cells),Own.box br 95 [bE code,AV.int (r.2)]]) (λ_=>AV.dx []):=by
 refine c7.intro 60 Tryz.func108 rfl Tryz.ntmps108 rfl (by kernel_rfl) (λW I a U=>?_)
 refine ai λI a w U=>?_
 refine St.lo (σ:=Nat×dR×Int) (run 54 6 []) ⟨λ⟨j,s1,p1⟩=>[(6,AV.int j)],λ⟨j,s1,p1⟩=>[Own.box bs 75 [AV.val (.pointer (some ⟨br,0,none⟩)),AV.int s1.w.time,bR s1.w.ax,bq s1.w.ar,bK s1.w.calls,bQ s1.w.seen,AV.val s1.lv],Own.row s1.lv 52 11 (s1.list.map Ev.cells),Own.box br 95 [bE code,AV.int (p1)]],λ⟨j,s1,p1⟩=>cO (n+4*j) s1/\0<=p1/\p1<=((n+4*j:Nat):Int)/\j<=60⟩ (λ⟨j,s1,p1⟩=>60-j) (0,s,p) U ?aJ ?aK
 case aJ=>exact⟨h,h0,h1,Nat.zero_le _⟩
 case aK=>
  rintro⟨j,s1,p1⟩ I a w aj U
  obtain⟨jJ,qm,DV,hj⟩:=aj
  dsimp only at U
  have ku:=jJ.ar
  refine Ae λI a w U=>?_
  refine nw (λae=>?_) λae=>?_
  ·refine zt ?_
   refine U.o (.bd kW (.k bf.nil)) λU=>?_
   refine U.alloc rfl iH kW λb7 I a w U=>?_
   refine U.sb 3 λU=>?_
   refine nn ?_
   refine St.cut (σ:=Ev×Int) (run 34 23 []) ⟨λ⟨ev,p2⟩=>[],λ⟨ev,p2⟩=>[Own.box bs 75 [AV.val (.pointer (some ⟨br,0,none⟩)),AV.int s1.w.time,bR s1.w.ax,bq s1.w.ar,bK s1.w.calls,bQ s1.w.seen,AV.val s1.lv],Own.row s1.lv 52 11 (s1.list.map Ev.cells),Own.box br 95 [bE code,AV.int (p2)],Own.box b7 52 (ev:Ev).cells],λ⟨ev,p2⟩=>ev.yg/\0<=p2/\p2<=((n+4*j+3:Nat):Int)⟩ U ?rf ?rh
   case rf=>
    refine lE λI a w U=>?_
    refine U.Ut 2 (Kn rfl rfl rfl) rfl rfl (fW br code p1 uu (by omega) bB) (aw .ag (aw .ag aL)) λI a w U=>?_
    have hq:∀G:Bool,∃p2:Int,(bif G then Own.box br 95 [bE code,AV.int (p1+1)] else Own.box br 95 [bE code,AV.int (p1)])=Own.box br 95 [bE code,AV.int (p2)]/\p1<=p2/\p2<=p1+1:=λG=>by cases G;exact⟨p1,rfl,by omega,by first|omega|(dsimp only;omega)|(dsimp only;push_cast;omega)|(push_cast;omega)|simp⟩;exact⟨p1+1,rfl,by omega,by first|omega|(dsimp only;omega)|(dsimp only;push_cast;omega)|(push_cast;omega)|simp⟩
    obtain⟨p2,e2,QG,hp3⟩:=hq (decide (0<uu))
    change St _ _ [Own.box bs 75 [AV.val (.pointer (some ⟨br,0,none⟩)),AV.int s1.w.time,bR s1.w.ax,bq s1.w.ar,bK s1.w.calls,bQ s1.w.seen,AV.val s1.lv],Own.row s1.lv 52 11 (s1.list.map Ev.cells),(bif decide (0<uu) then Own.box br 95 [bE code,AV.int (p1+1)] else Own.box br 95 [bE code,AV.int (p1)]),Own.box b7 52 (⟨4,0,0,0,0,0,0,0,0,0,0⟩:Ev).cells] _ _ _ at U
    rw[e2] at U
    refine aA λI a w U=>?_
    refine U.cd (λah=>?_) λah=>?_
    ·refine bt λI a w U=>?_
     refine U.eT [2] (fW br code (p2) (4) (by omega) bB) (aw .tt (aw .c aL)) rfl (by decide) rfl λI a w U=>?_
     change St _ _ [Own.box bs 75 [AV.val (.pointer (some ⟨br,0,none⟩)),AV.int s1.w.time,bR s1.w.ax,bq s1.w.ar,bK s1.w.calls,bQ s1.w.seen,AV.val s1.lv],Own.row s1.lv 52 11 (s1.list.map Ev.cells),Own.box br 95 [bE code,AV.int (p2+1)],Own.box b7 52 (⟨4,0,0,0,0,0,0,0,0,0,0⟩:Ev).cells] _ _ _ at U
     have aec:=iY code (p2) (4)
     have aed:=gT code (p2) (4) (by omega)
     try have aee:=jl code (p2) (n:=4) (by omega)
     generalize dA code (p2) (4)=x38 at U aec aed aee
     refine aA λI a w U=>?_
     refine U.cd (λal=>?_) λal=>?_
     ·refine aA λI a w U=>?_
      exact U.me (⟨5,0,0,0,0,0,0,0,0,0,0⟩,p2+1) (⟨ki,by first|omega|(dsimp only;omega)|(dsimp only;push_cast;omega)|(push_cast;omega)|simp,by first|omega|(dsimp only;omega)|(dsimp only;push_cast;omega)|(push_cast;omega)|simp⟩)
     ·refine aA λI a w U=>?_
      refine U.cd (λaH=>?_) λaH=>?_
      ·refine aA λI a w U=>?_
       exact U.me (⟨4,0,0,0,1,0,0,0,0,0,0⟩,p2+1) (⟨ki,by first|omega|(dsimp only;omega)|(dsimp only;push_cast;omega)|(push_cast;omega)|simp,by first|omega|(dsimp only;omega)|(dsimp only;push_cast;omega)|(push_cast;omega)|simp⟩)
      ·refine U.dt 10 ?_
       simp only[TD]
       refine oY ?_
       refine .nil ?_
       intro I a w U
       refine U.eT [2] (fW br code (p2+1) (s1.w.ar.length:Int) (by omega) bB) (aw .tt (aw .tt aL)) rfl (by decide) rfl λI a w U=>?_
       refine aF λI a w U=>?_
       refine wpList_nil ?_
       change St _ _ [Own.box bs 75 [AV.val (.pointer (some ⟨br,0,none⟩)),AV.int s1.w.time,bR s1.w.ax,bq s1.w.ar,bK s1.w.calls,bQ s1.w.seen,AV.val s1.lv],Own.row s1.lv 52 11 (s1.list.map Ev.cells),Own.box br 95 [bE code,AV.int (p2+1+1)],Own.box b7 52 (⟨4,0,0,dA code (p2+1) (s1.w.ar.length:Int),0,0,0,0,0,0,0⟩:Ev).cells] _ _ _ at U
       have hw:=gT code (p2+1) (s1.w.ar.length:Int) (by omega)
       generalize dA code (p2+1) (s1.w.ar.length:Int)=xw at U hw
       refine zt ?_
       exact U.me (⟨4,0,0,xw,0,0,0,0,0,0,0⟩,p2+1+1) (⟨ki,by first|omega|(dsimp only;omega)|(dsimp only;push_cast;omega)|(push_cast;omega)|simp,by first|omega|(dsimp only;omega)|(dsimp only;push_cast;omega)|(push_cast;omega)|simp⟩)
    ·refine zt ?_
     exact U.me (⟨4,0,0,0,0,0,0,0,0,0,0⟩,p2) (⟨ki,by first|omega|(dsimp only;omega)|(dsimp only;push_cast;omega)|(push_cast;omega)|simp,by first|omega|(dsimp only;omega)|(dsimp only;push_cast;omega)|(push_cast;omega)|simp⟩)
   case rh=>
    rintro⟨ev,p2⟩ I a w aj U
    obtain⟨Jo,Ed,Ee⟩:=aj
    dsimp only at U
    refine aF λI a w U=>?_
    refine U.cG [0,1] (nd bs br s1 ev (n+4*j+3) (jJ.mono (by omega)) (by omega) (Jo)) (aw .tt (aw .tt aL)) rfl (by decide) rfl λr59 I a w Jp U=>?_
    obtain⟨sw,b59⟩:=r59
    change St _ _ [Own.box bs 75 [AV.val (.pointer (some ⟨br,0,none⟩)),AV.int sw.w.time,bR sw.w.ax,bq sw.w.ar,bK sw.w.calls,bQ sw.w.seen,AV.val sw.lv],Own.row sw.lv 52 11 (sw.list.map Ev.cells),Own.box br 95 [bE code,AV.int (p2)],Own.box b7 52 (ev:Ev).cells] _ _ _ at U
    replace Jp:cO ((n+4*j+3)+1) sw:=Jp
    refine aI λI a w U=>?_
    have U:=U.drop 3
    exact U.ag (j+1,sw,p2) (⟨Jp.mono (by omega),by first|omega|(dsimp only;omega)|(dsimp only;push_cast;omega)|(push_cast;omega)|simp,by first|omega|(dsimp only;omega)|(dsimp only;push_cast;omega)|(push_cast;omega)|simp,by first|omega|(dsimp only;omega)|(dsimp only;push_cast;omega)|(push_cast;omega)|simp⟩)
  ·refine zt ?_
   refine U.nv (s1,p1) [0,1,2] rfl .nil (by(try dsimp only);exact⟨jJ.mono (by omega),by first|omega|(dsimp only;omega)|(dsimp only;push_cast;omega)|(push_cast;omega)|simp,by first|omega|(dsimp only;omega)|(dsimp only;push_cast;omega)|(push_cast;omega)|simp⟩) rfl rfl
theorem RF (bs br:Nat) (code:List UInt8) (bB:code.length<=1099511627776) (s:dR) (p:Int) (n:Nat) (h:cO n s) (h0:0<=p) (h1:p<=n) (hn:n<=890000) (rm:Int) (hm:rm<=30):
 c7 Tryz.prog 110 [AV.val (.pointer (some ⟨bs,0,none⟩)),AV.int rm] [Own.box bs 75 [AV.val (.pointer (some ⟨br,0,none⟩)),AV.int s.w.time,bR s.w.ax,bq s.w.ar,bK s.w.calls,bQ s.w.seen,AV.val s.lv],Own.row s.lv 52 11 (s.list.map Ev.cells),Own.box br 95 [bE code,AV.int (p)]] (λr:dR×Int=>cO (n+60) r.1/\0<=r.2/\r.2<=((n+60:Nat):Int)) (λr=>[Own.box bs 75 [AV.val (.pointer (some ⟨br,0,none⟩)),AV.int r.1.w.time,bR r.1.w.ax,bq r.1.w.ar,bK r.1.w.calls,bQ r.1.w.seen,AV.val r.1.lv],Own.row r.1.lv 52 11 (r.1.list.map Ev.cells),Own.box br 95 [bE code,AV.int (r.2)]]) (λ_=>AV.dx []):=by
 refine c7.intro 33 Tryz.func110 rfl Tryz.ntmps110 rfl (by kernel_rfl) (λW I a U=>?_)
 refine ai λI a w U=>?_
 refine St.lo (σ:=Nat×dR×Int) (run 29 4 []) ⟨λ⟨j,s1,p1⟩=>[(4,AV.int j)],λ⟨j,s1,p1⟩=>[Own.box bs 75 [AV.val (.pointer (some ⟨br,0,none⟩)),AV.int s1.w.time,bR s1.w.ax,bq s1.w.ar,bK s1.w.calls,bQ s1.w.seen,AV.val s1.lv],Own.row s1.lv 52 11 (s1.list.map Ev.cells),Own.box br 95 [bE code,AV.int (p1)]],λ⟨j,s1,p1⟩=>cO (n+2*j) s1/\0<=p1/\p1<=((n+2*j:Nat):Int)/\j<=30⟩ (λ⟨j,s1,p1⟩=>30-j) (0,s,p) U ?aJ ?aK
 case aJ=>exact⟨h,h0,h1,Nat.zero_le _⟩
 case aK=>
  rintro⟨j,s1,p1⟩ I a w aj U
  obtain⟨jJ,qm,DV,hj⟩:=aj
  dsimp only at U
  have ku:=jJ.ar
  refine Ae λI a w U=>?_
  refine nw (λae=>?_) λae=>?_
  ·refine zt ?_
   refine U.z9 13 _ [([],none),([],none),([],none),([],none),([0],none),([],none),([],none),([],none),([],none),([0],none),([],none),([2],some (2,[])),([],none)] rfl (by kernel_rfl) (by kernel_rfl) rfl ?_
   simp only[TD]
   refine dq ?_
   refine .r [0] (.lb 0) ?_
   refine dq ?_
   refine .r [0] (.lb 0) ?_
   refine bn ?_
   refine aS.wm 2 rfl rfl (fW br code p1 (s1.w.ar.length:Int) (by omega) bB) (aw .tt (aw .tt aL)) ?_
   refine .o (.bd kW (.k (.k bf.nil))) ?_
   refine .nil ?_
   intro I a w U
   change St _ _ [Own.box bs 75 [AV.val (.pointer (some ⟨br,0,none⟩)),AV.int s1.w.time,bR s1.w.ax,bq s1.w.ar,bK s1.w.calls,bQ s1.w.seen,AV.val s1.lv],Own.row s1.lv 52 11 (s1.list.map Ev.cells),Own.box br 95 [bE code,AV.int (p1+1)]] _ _ _ at U
   have aeg:=gT code (p1) ((s1.w.ar.length:Int)) (by omega)
   generalize dA code (p1) ((s1.w.ar.length:Int))=x30 at U aeg
   show wpList _ _ _ _ _ _
   refine U.cG [0,1] (nd bs br s1 ⟨4,0,0,x30,0,0,0,0,0,0,0⟩ (n+2*j+1) (jJ.mono (by omega)) (by omega) (ki)) (aw .tt (aw .tt aL)) rfl (by decide) rfl λr32 I a w Jq U=>?_
   obtain⟨sB,b32⟩:=r32
   change St _ _ [Own.box bs 75 [AV.val (.pointer (some ⟨br,0,none⟩)),AV.int sB.w.time,bR sB.w.ax,bq sB.w.ar,bK sB.w.calls,bQ sB.w.seen,AV.val sB.lv],Own.row sB.lv 52 11 (sB.list.map Ev.cells),Own.box br 95 [bE code,AV.int (p1+1)]] _ _ _ at U
   replace Jq:cO ((n+2*j+1)+1) sB:=Jq
   refine aI λI a w U=>?_
   exact U.ag (j+1,sB,p1+1) (⟨Jq.mono (by omega),by first|omega|(dsimp only;omega)|(dsimp only;push_cast;omega)|(push_cast;omega)|simp,by first|omega|(dsimp only;omega)|(dsimp only;push_cast;omega)|(push_cast;omega)|simp,by first|omega|(dsimp only;omega)|(dsimp only;push_cast;omega)|(push_cast;omega)|simp⟩)
  ·refine zt ?_
   refine U.nv (s1,p1) [0,1,2] rfl .nil (by(try dsimp only);exact⟨jJ.mono (by omega),by first|omega|(dsimp only;omega)|(dsimp only;push_cast;omega)|(push_cast;omega)|simp,by first|omega|(dsimp only;omega)|(dsimp only;push_cast;omega)|(push_cast;omega)|simp⟩) rfl rfl
theorem Bv (bs br:Nat) (code:List UInt8) (bB:code.length<=1099511627776) (s:dR) (p:Int) (n:Nat) (h:cO n s) (h0:0<=p) (h1:p<=n) (hn:n<=890000) (an:Int) (hc:gA an):
 c7 Tryz.prog 107 [AV.val (.pointer (some ⟨bs,0,none⟩)),AV.int an] [Own.box bs 75 [AV.val (.pointer (some ⟨br,0,none⟩)),AV.int s.w.time,bR s.w.ax,bq s.w.ar,bK s.w.calls,bQ s.w.seen,AV.val s.lv],Own.row s.lv 52 11 (s.list.map Ev.cells),Own.box br 95 [bE code,AV.int (p)]] (λr:dR×Int=>cO (n+8) r.1/\0<=r.2/\r.2<=((n+8:Nat):Int)) (λr=>[Own.box bs 75 [AV.val (.pointer (some ⟨br,0,none⟩)),AV.int r.1.w.time,bR r.1.w.ax,bq r.1.w.ar,bK r.1.w.calls,bQ r.1.w.seen,AV.val r.1.lv],Own.row r.1.lv 52 11 (r.1.list.map Ev.cells),Own.box br 95 [bE code,AV.int (r.2)]]) (λ_=>AV.dx []):=by
 refine c7.intro 58 Tryz.func107 rfl Tryz.ntmps107 rfl (by kernel_rfl) (λW I a U=>?_)
 refine St.cut (σ:=dR×Int) (run 50 4 []) ⟨λ⟨s2,p2⟩=>[],λ⟨s2,p2⟩=>[Own.box bs 75 [AV.val (.pointer (some ⟨br,0,none⟩)),AV.int s2.w.time,bR s2.w.ax,bq s2.w.ar,bK s2.w.calls,bQ s2.w.seen,AV.val s2.lv],Own.row s2.lv 52 11 (s2.list.map Ev.cells),Own.box br 95 [bE code,AV.int (p2)]],λ⟨s2,p2⟩=>cO (n+6) s2/\0<=p2/\p2<=((n+6:Nat):Int)⟩ U ?aej ?aek
 case aej=>
  refine dD λI a w U=>?_
  refine U.o (.cl (CG s.w.calls an)) λU=>?_
  refine ai λI a w U=>?_
  refine U.cd (λae=>?_) λae=>?_
  ·refine wp_seq ?_
   have U:=U.fT
   refine U.eo [([],none),([],none),([],none),([],none),([0],none),([2],some (2,[])),([],none),([],none),([],none),([],none),([0],none),([2],some (2,[])),([],none),([],none),([],none),([],none),([0],none),([2],some (2,[])),([],none),([],none),([],none),([],none),([],none),([0],none),([2],some (2,[])),([],none),([3],some (3,[4])),([3],some (3,[4]))] (by kernel_rfl) (by kernel_rfl) rfl ?_
   refine dq ?_
   refine .r [0] (.lb 0) ?_
   refine aS.wm 2 rfl rfl (fW br code p 2 (by omega) bB) (aw .tt (aw .c aL)) ?_
   refine .o (kS .c .tt (λ_=>by have h9:=gT code p 2 (by omega);omega)) ?_
   refine cD ?_
   refine .r [0] (.lb 0) ?_
   refine aS.wm 2 rfl rfl (fW br code (p+1) 6 (by omega) bB) (aw .tt (aw .c aL)) ?_
   refine .o (.li (([0,2,dA code (p+1) 6]:List Int).map B2) uP (.v (.v (.v .nil)))) ?_
   refine cD ?_
   refine .r [0] (.lb 0) ?_
   refine aS.wm 2 rfl rfl (fW br code (p+1+1) 3 (by omega) bB) (aw .tt (aw .c aL)) ?_
   refine .o ((by first|exact dS ju gO .tt .tt (λ_=>by have h9:=wQ code (p+1+1) (n:=3) (by omega);(try simp);omega)|exact fS ju gO .tt .tt (λ_=>by have h9:=wQ code (p+1+1) (n:=3) (by omega);(try simp);omega)|exact fZ ju gO .tt .tt (λ_=>by have h9:=wQ code (p+1+1) (n:=3) (by omega);(try simp);omega))) ?_
   refine dq ?_
   refine .r [0] (.lb 0) ?_
   refine aS.wm 2 rfl rfl (fW br code (p+1+1+1) 90 (by omega) bB) (aw .tt (aw .c aL)) ?_
   refine .o (.bd kW (.k (.k (.k (.k (.k bf.nil)))))) ?_
   refine aS.alloc 3 rfl rfl iH kW<|aS.mz 3 rfl iH rfl .tt rfl rfl<|.nil ?_
   intro I a w U
   obtain⟨b4,U⟩:=U.lC (d:=4) 3 rfl rfl
   change St _ _ [Own.box bs 75 [AV.val (.pointer (some ⟨br,0,none⟩)),AV.int s.w.time,bR s.w.ax,bq s.w.ar,bK s.w.calls,bQ s.w.seen,AV.val s.lv],Own.row s.lv 52 11 (s.list.map Ev.cells),Own.box br 95 [bE code,AV.int (p+1+1+1+1)],Own.box b4 52 (⟨1,0,an,0,0,0,1+dA code p 2,ab [0,2,dA code (p+1) 6] (dA code (p+1+1) 3).toNat,0,0,dA code (p+1+1+1) 90⟩:Ev).cells] _ _ _ at U
   have hA:gA (ab [0,2,dA code (p+1) 6] (dA code (p+1+1) 3).toNat):=WK (CI (iY ..) (gT code (p+1) 6 (by omega)).2)
   have hv:=gT code (p+1+1+1) 90 (by omega)
   have hca:=gT code p 2 (by omega)
   obtain⟨ca,e18⟩:∃ca,ca=1+dA code p 2:=⟨_,rfl⟩
   rw[<-e18] at U
   generalize ab [0,2,dA code (p+1) 6] (dA code (p+1+1) 3).toNat=av at U hA
   generalize dA code (p+1+1+1) 90=vv at U hv
   refine aY ?_
   refine St.cut (σ:=Ev×Int) (run 12 39 []) ⟨λ⟨ev,p3⟩=>[],λ⟨ev,p3⟩=>[Own.box bs 75 [AV.val (.pointer (some ⟨br,0,none⟩)),AV.int s.w.time,bR s.w.ax,bq s.w.ar,bK s.w.calls,bQ s.w.seen,AV.val s.lv],Own.row s.lv 52 11 (s.list.map Ev.cells),Own.box br 95 [bE code,AV.int (p3)],Own.box b4 52 (ev:Ev).cells],λ⟨ev,p3⟩=>ev.yg/\0<=p3/\p3<=((n+5:Nat):Int)⟩ U ?Be ?Bf
   case Be=>
    refine aI λI a w U=>?_
    refine U.cd (λah=>?_) λah=>?_
    ·refine uO λI a w U=>?_
     refine U.eT [2] (fW br code (p+1+1+1+1) (6) (by omega) bB) (aw .tt (aw .c aL)) rfl (by decide) rfl λI a w U=>?_
     change St _ _ [Own.box bs 75 [AV.val (.pointer (some ⟨br,0,none⟩)),AV.int s.w.time,bR s.w.ax,bq s.w.ar,bK s.w.calls,bQ s.w.seen,AV.val s.lv],Own.row s.lv 52 11 (s.list.map Ev.cells),Own.box br 95 [bE code,AV.int (p+1+1+1+1+1)],Own.box b4 52 (⟨1,0,an,0,0,0,ca,0,2,0,0⟩:Ev).cells] _ _ _ at U
     have aem:=iY code (p+1+1+1+1) (6)
     have aen:=gT code (p+1+1+1+1) (6) (by omega)
     try have aeo:=jl code (p+1+1+1+1) (n:=6) (by omega)
     generalize dA code (p+1+1+1+1) (6)=x49 at U aem aen aeo
     refine aA λI a w U=>?_
     exact U.me (⟨1,0,an,0,0,0,ca,0,2,x49,0⟩,p+1+1+1+1+1) (by first|exact⟨ki (h3:=hc),by first|omega|(dsimp only;omega)|(dsimp only;push_cast;omega)|(push_cast;omega)|simp,by first|omega|(dsimp only;omega)|(dsimp only;push_cast;omega)|(push_cast;omega)|simp⟩|exact⟨ki (h3:=hc) (h8:=hA),by first|omega|(dsimp only;omega)|(dsimp only;push_cast;omega)|(push_cast;omega)|simp,by first|omega|(dsimp only;omega)|(dsimp only;push_cast;omega)|(push_cast;omega)|simp⟩)
    ·refine zt ?_
     exact U.me (⟨1,0,an,0,0,0,ca,av,0,0,vv⟩,p+1+1+1+1) (by first|exact⟨ki (h3:=hc),by first|omega|(dsimp only;omega)|(dsimp only;push_cast;omega)|(push_cast;omega)|simp,by first|omega|(dsimp only;omega)|(dsimp only;push_cast;omega)|(push_cast;omega)|simp⟩|exact⟨ki (h3:=hc) (h8:=hA),by first|omega|(dsimp only;omega)|(dsimp only;push_cast;omega)|(push_cast;omega)|simp,by first|omega|(dsimp only;omega)|(dsimp only;push_cast;omega)|(push_cast;omega)|simp⟩)
   case Bf=>
    rintro⟨ev,p3⟩ I a w aj U
    obtain⟨Jo,hp6,hp7⟩:=aj
    dsimp only at U
    refine aF λI a w U=>?_
    refine U.cG [0,1] (nd bs br s ev (n+5) (h.mono (by omega)) (by omega) (Jo)) (aw .tt (aw .tt aL)) rfl (by decide) rfl λr53 I a w Ef U=>?_
    obtain⟨sC,b53⟩:=r53
    change St _ _ [Own.box bs 75 [AV.val (.pointer (some ⟨br,0,none⟩)),AV.int sC.w.time,bR sC.w.ax,bq sC.w.ar,bK sC.w.calls,bQ sC.w.seen,AV.val sC.lv],Own.row sC.lv 52 11 (sC.list.map Ev.cells),Own.box br 95 [bE code,AV.int (p3)],Own.box b4 52 (ev:Ev).cells] _ _ _ at U
    replace Ef:cO ((n+5)+1) sC:=Ef
    refine zt ?_
    have U:=U.drop 3
    exact U.me (sC,p3) (by first|exact⟨Ef,by first|omega|(dsimp only;omega)|(dsimp only;push_cast;omega)|(push_cast;omega)|simp,by first|omega|(dsimp only;omega)|(dsimp only;push_cast;omega)|(push_cast;omega)|simp⟩|exact⟨h.mono (by omega),by first|omega|(dsimp only;omega)|(dsimp only;push_cast;omega)|(push_cast;omega)|simp,by first|omega|(dsimp only;omega)|(dsimp only;push_cast;omega)|(push_cast;omega)|simp⟩)
  ·refine zt ?_
   have U:=U.drop 3
   exact U.me (s,p) (by first|exact⟨Ef,by first|omega|(dsimp only;omega)|(dsimp only;push_cast;omega)|(push_cast;omega)|simp,by first|omega|(dsimp only;omega)|(dsimp only;push_cast;omega)|(push_cast;omega)|simp⟩|exact⟨h.mono (by omega),by first|omega|(dsimp only;omega)|(dsimp only;push_cast;omega)|(push_cast;omega)|simp,by first|omega|(dsimp only;omega)|(dsimp only;push_cast;omega)|(push_cast;omega)|simp⟩)
 case aek=>
  rintro⟨s2,p2⟩ I a w aj U
  obtain⟨eD,Ed,Ee⟩:=aj
  dsimp only at U
  refine aF λI a w U=>?_
  refine U.o (.bd kW (.k (.k bf.nil))) λU=>?_
  refine U.cG [0,1] (nd bs br s2 ⟨2,0,an,0,0,0,0,0,0,0,0⟩ (n+6) eD (by omega) (ki (h3:=hc))) (aw .tt (aw .tt aL)) rfl (by decide) rfl λr57 I a w Jr U=>?_
  obtain⟨sD,b57⟩:=r57
  change St _ _ [Own.box bs 75 [AV.val (.pointer (some ⟨br,0,none⟩)),AV.int sD.w.time,bR sD.w.ax,bq sD.w.ar,bK sD.w.calls,bQ sD.w.seen,AV.val sD.lv],Own.row sD.lv 52 11 (sD.list.map Ev.cells),Own.box br 95 [bE code,AV.int (p2)]] _ _ _ at U
  replace Jr:cO ((n+6)+1) sD:=Jr
  refine wpList_nil ?_
  refine U.nv (sD,p2) [0,1,2] rfl .nil (by(try dsimp only);exact⟨Jr.mono (by omega),by first|omega|(dsimp only;omega)|(dsimp only;push_cast;omega)|(push_cast;omega)|simp,by first|omega|(dsimp only;omega)|(dsimp only;push_cast;omega)|(push_cast;omega)|simp⟩) rfl rfl
set_option maxHeartbeats 8000000 in
theorem aes (bs br:Nat) (code:List UInt8) (bB:code.length<=1099511627776) (s:dR) (p:Int) (n:Nat) (h:cO n s) (h0:0<=p) (h1:p<=n) (hn:n<=880000):
 c7 Tryz.prog 111 [AV.val (.pointer (some ⟨bs,0,none⟩))] [Own.box bs 75 [AV.val (.pointer (some ⟨br,0,none⟩)),AV.int s.w.time,bR s.w.ax,bq s.w.ar,bK s.w.calls,bQ s.w.seen,AV.val s.lv],Own.row s.lv 52 11 (s.list.map Ev.cells),Own.box br 95 [bE code,AV.int (p)]] (λr:dR×Int=>cO (n+800) r.1/\0<=r.2/\r.2<=((n+800:Nat):Int)) (λr=>[Own.box bs 75 [AV.val (.pointer (some ⟨br,0,none⟩)),AV.int r.1.w.time,bR r.1.w.ax,bq r.1.w.ar,bK r.1.w.calls,bQ r.1.w.seen,AV.val r.1.lv],Own.row r.1.lv 52 11 (r.1.list.map Ev.cells),Own.box br 95 [bE code,AV.int (r.2)]]) (λ_=>AV.dx []):=by
 refine c7.intro 143 Tryz.func111 rfl Tryz.ntmps111 rfl (by kernel_rfl) (λW I a U=>?_)
 refine bH λI a w U=>?_
 refine U.cG [0,1,2] (Bu bs br code bB s (p) (n) h (by omega) (by omega) (by omega) 60 0 (by omega)) (aw .tt (aw .c (aw .c aL))) rfl (by decide) rfl λr10 I a w Js U=>?_
 obtain⟨fX,fR⟩:=r10
 change St _ _ [Own.box bs 75 [AV.val (.pointer (some ⟨br,0,none⟩)),AV.int fX.w.time,bR fX.w.ax,bq fX.w.ar,bK fX.w.calls,bQ fX.w.seen,AV.val fX.lv],Own.row fX.lv 52 11 (fX.list.map Ev.cells),Own.box br 95 [bE code,AV.int (fR)]] _ _ _ at U
 replace Js:cO ((n)+240) fX/\0<=fR/\fR<=(((n)+240:Nat):Int):=Js
 obtain⟨nS,l10,u10⟩:=Js
 refine nn ?_
 refine St.cut (σ:=dR×Int) (run 34 11 []) ⟨λ⟨sA,pA⟩=>[],λ⟨sA,pA⟩=>[Own.box bs 75 [AV.val (.pointer (some ⟨br,0,none⟩)),AV.int sA.w.time,bR sA.w.ax,bq sA.w.ar,bK sA.w.calls,bQ sA.w.seen,AV.val sA.lv],Own.row sA.lv 52 11 (sA.list.map Ev.cells),Own.box br 95 [bE code,AV.int (pA)]],λ⟨sA,pA⟩=>cO (n+250) sA/\0<=pA/\pA<=((n+250:Nat):Int)⟩ U ?G5 ?G6
 case G5=>
  refine bt λI a w U=>?_
  refine U.eT [2] (fW br code (fR) (2) (by omega) bB) (aw .tt (aw .c aL)) rfl (by decide) rfl λI a w U=>?_
  change St _ _ [Own.box bs 75 [AV.val (.pointer (some ⟨br,0,none⟩)),AV.int fX.w.time,bR fX.w.ax,bq fX.w.ar,bK fX.w.calls,bQ fX.w.seen,AV.val fX.lv],Own.row fX.lv 52 11 (fX.list.map Ev.cells),Own.box br 95 [bE code,AV.int (fR+1)]] _ _ _ at U
  have aeu:=iY code (fR) (2)
  have aev:=gT code (fR) (2) (by omega)
  try have aew:=jl code (fR) (n:=2) (by omega)
  generalize dA code (fR) (2)=x15 at U aeu aev aew
  refine ai λI a w U=>?_
  refine U.cd (λae=>?_) λae=>?_
  ·refine bM λI a w U=>?_
   refine U.eT [2] (fW br code (fR+1) (2) (by omega) bB) (aw .tt (aw .c aL)) rfl (by decide) rfl λI a w U=>?_
   change St _ _ [Own.box bs 75 [AV.val (.pointer (some ⟨br,0,none⟩)),AV.int fX.w.time,bR fX.w.ax,bq fX.w.ar,bK fX.w.calls,bQ fX.w.seen,AV.val fX.lv],Own.row fX.lv 52 11 (fX.list.map Ev.cells),Own.box br 95 [bE code,AV.int (fR+1+1)]] _ _ _ at U
   have RG:=iY code (fR+1) (2)
   have RH:=gT code (fR+1) (2) (by omega)
   try have aex:=jl code (fR+1) (n:=2) (by omega)
   generalize dA code (fR+1) (2)=x22 at U RG RH aex
   refine U.cG [0,1,2] (Bv bs br code bB fX (fR+1+1) (n+242) (nS.mono (by omega)) (by omega) (by omega) (by omega) x22 (CI RG RH.2)) (aw .tt (aw .tt aL)) rfl (by decide) rfl λr23 I a w Jt U=>?_
   obtain⟨sE,Eg⟩:=r23
   change St _ _ [Own.box bs 75 [AV.val (.pointer (some ⟨br,0,none⟩)),AV.int sE.w.time,bR sE.w.ax,bq sE.w.ar,bK sE.w.calls,bQ sE.w.seen,AV.val sE.lv],Own.row sE.lv 52 11 (sE.list.map Ev.cells),Own.box br 95 [bE code,AV.int (Eg)]] _ _ _ at U
   replace Jt:cO ((n+242)+8) sE/\0<=Eg/\Eg<=(((n+242)+8:Nat):Int):=Jt
   obtain⟨RI,l23,u23⟩:=Jt
   refine zt ?_
   exact U.me (sE,Eg) (by first|exact⟨RI.mono (by omega),by first|omega|(dsimp only;omega)|(dsimp only;push_cast;omega)|(push_cast;omega)|simp,by first|omega|(dsimp only;omega)|(dsimp only;push_cast;omega)|(push_cast;omega)|simp⟩|exact⟨Eh.mono (by omega),by first|omega|(dsimp only;omega)|(dsimp only;push_cast;omega)|(push_cast;omega)|simp,by first|omega|(dsimp only;omega)|(dsimp only;push_cast;omega)|(push_cast;omega)|simp⟩)
  ·refine wp_seq ?_
   refine U.z9 12 _ [([],none),([],none),([],none),([],none),([0],none),([2],some (2,[])),([],none),([],none),([],none),([0],none),([2],some (2,[])),([],none)] rfl (by kernel_rfl) (by kernel_rfl) rfl ?_
   simp only[TD]
   refine dq ?_
   refine .r [0] (.lb 0) ?_
   refine aS.wm 2 rfl rfl (fW br code (fR+1) 4 (by omega) bB) (aw .tt (aw .c aL)) ?_
   refine cD ?_
   refine .r [0] (.lb 0) ?_
   refine aS.wm 2 rfl rfl (fW br code (fR+1+1) 3 (by omega) bB) (aw .tt (aw .c aL)) ?_
   refine .o (.bd kW (.k (.k (.k bf.nil)))) ?_
   refine .nil ?_
   intro I a w U
   change St _ _ [Own.box bs 75 [AV.val (.pointer (some ⟨br,0,none⟩)),AV.int fX.w.time,bR fX.w.ax,bq fX.w.ar,bK fX.w.calls,bQ fX.w.seen,AV.val fX.lv],Own.row fX.lv 52 11 (fX.list.map Ev.cells),Own.box br 95 [bE code,AV.int (fR+1+1+1)]] _ _ _ at U
   have aeA:=iY code (fR+1) (4)
   have aeB:=gT code (fR+1) (4) (by omega)
   try have aeC:=jl code (fR+1) (n:=4) (by omega)
   generalize dA code (fR+1) (4)=x29 at U aeA aeB aeC
   have aeE:=iY code (fR+1+1) (3)
   have aeF:=gT code (fR+1+1) (3) (by omega)
   try have aeG:=jl code (fR+1+1) (n:=3) (by omega)
   generalize dA code (fR+1+1) (3)=x34 at U aeE aeF aeG
   show wpList _ _ _ _ _ _
   refine U.cG [0,1] (nd bs br fX ⟨9,x29,0,0,0,x34,0,0,0,0,0⟩ (n+243) (nS.mono (by omega)) (by omega) (ki)) (aw .tt (aw .tt aL)) rfl (by decide) rfl λr36 I a w DT U=>?_
   obtain⟨mc,b36⟩:=r36
   change St _ _ [Own.box bs 75 [AV.val (.pointer (some ⟨br,0,none⟩)),AV.int mc.w.time,bR mc.w.ax,bq mc.w.ar,bK mc.w.calls,bQ mc.w.seen,AV.val mc.lv],Own.row mc.lv 52 11 (mc.list.map Ev.cells),Own.box br 95 [bE code,AV.int (fR+1+1+1)]] _ _ _ at U
   replace DT:cO ((n+243)+1) mc:=DT
   refine bM λI a w U=>?_
   refine U.eT [2] (fW br code (fR+1+1+1) (4) (by omega) bB) (aw .tt (aw .c aL)) rfl (by decide) rfl λI a w U=>?_
   change St _ _ [Own.box bs 75 [AV.val (.pointer (some ⟨br,0,none⟩)),AV.int mc.w.time,bR mc.w.ax,bq mc.w.ar,bK mc.w.calls,bQ mc.w.seen,AV.val mc.lv],Own.row mc.lv 52 11 (mc.list.map Ev.cells),Own.box br 95 [bE code,AV.int (fR+1+1+1+1)]] _ _ _ at U
   have aeJ:=iY code (fR+1+1+1) (4)
   have aeK:=gT code (fR+1+1+1) (4) (by omega)
   try have aeL:=jl code (fR+1+1+1) (n:=4) (by omega)
   generalize dA code (fR+1+1+1) (4)=x42 at U aeJ aeK aeL
   refine U.o (.bd kW (.k (.k bf.nil))) λU=>?_
   refine U.cG [0,1] (nd bs br mc ⟨8,x42,0,0,0,0,0,0,0,0,0⟩ (n+244) DT (by omega) (ki)) (aw .tt (aw .tt aL)) rfl (by decide) rfl λr44 I a w Eh U=>?_
   obtain⟨sF,b44⟩:=r44
   change St _ _ [Own.box bs 75 [AV.val (.pointer (some ⟨br,0,none⟩)),AV.int sF.w.time,bR sF.w.ax,bq sF.w.ar,bK sF.w.calls,bQ sF.w.seen,AV.val sF.lv],Own.row sF.lv 52 11 (sF.list.map Ev.cells),Own.box br 95 [bE code,AV.int (fR+1+1+1+1)]] _ _ _ at U
   replace Eh:cO ((n+244)+1) sF:=Eh
   refine zt ?_
   exact U.me (sF,fR+1+1+1+1) (by first|exact⟨RI.mono (by omega),by first|omega|(dsimp only;omega)|(dsimp only;push_cast;omega)|(push_cast;omega)|simp,by first|omega|(dsimp only;omega)|(dsimp only;push_cast;omega)|(push_cast;omega)|simp⟩|exact⟨Eh.mono (by omega),by first|omega|(dsimp only;omega)|(dsimp only;push_cast;omega)|(push_cast;omega)|simp,by first|omega|(dsimp only;omega)|(dsimp only;push_cast;omega)|(push_cast;omega)|simp⟩)
 case G6=>
  rintro⟨sA,pA⟩ I a w aj U
  obtain⟨kA,lA,uA⟩:=aj
  dsimp only at U
  refine ai λI a w U=>?_
  refine St.lo (σ:=Nat×dR×Int) (run 3 2 (run 25 45 [])) ⟨λ⟨i,s1,p1⟩=>[(2,AV.int i)],λ⟨i,s1,p1⟩=>[Own.box bs 75 [AV.val (.pointer (some ⟨br,0,none⟩)),AV.int s1.w.time,bR s1.w.ax,bq s1.w.ar,bK s1.w.calls,bQ s1.w.seen,AV.val s1.lv],Own.row s1.lv 52 11 (s1.list.map Ev.cells),Own.box br 95 [bE code,AV.int (p1)]],λ⟨i,s1,p1⟩=>cO (n+260+61*i) s1/\0<=p1/\p1<=((n+260+61*i:Nat):Int)/\i<=3⟩ (λ⟨i,s1,p1⟩=>3-i) (0,sA,pA) U ?aJ ?aK
  case aJ=>exact⟨kA.mono (by omega),lA,by first|omega|(dsimp only;omega)|(dsimp only;push_cast;omega)|(push_cast;omega)|simp,by first|omega|(dsimp only;omega)|(dsimp only;push_cast;omega)|(push_cast;omega)|simp⟩
  case aK=>
   rintro⟨i,s1,p1⟩ I a w aj U
   obtain⟨jJ,qm,DV,hi⟩:=aj
   dsimp only at U
   have ku:=jJ.ar
   refine bM λI a w U=>?_
   refine U.eT [2] (fW br code (p1) (3) (by omega) bB) (aw .tt (aw .c aL)) rfl (by decide) rfl λI a w U=>?_
   change St _ _ [Own.box bs 75 [AV.val (.pointer (some ⟨br,0,none⟩)),AV.int s1.w.time,bR s1.w.ax,bq s1.w.ar,bK s1.w.calls,bQ s1.w.seen,AV.val s1.lv],Own.row s1.lv 52 11 (s1.list.map Ev.cells),Own.box br 95 [bE code,AV.int (p1+1)]] _ _ _ at U
   have aeO:=iY code (p1) (3)
   have aeP:=gT code (p1) (3) (by omega)
   try have aeQ:=jl code (p1) (n:=3) (by omega)
   generalize dA code (p1) (3)=x50 at U aeO aeP aeQ
   refine aA λI a w U=>?_
   refine cz (λah=>?_) λah=>?_
   ·refine ob λI a w U=>?_
    refine St.lo (σ:=Nat×dR) (4::(run 9 61 [])) ⟨λ⟨m,s2⟩=>[(4,AV.int m)],λ⟨m,s2⟩=>[Own.box bs 75 [AV.val (.pointer (some ⟨br,0,none⟩)),AV.int s2.w.time,bR s2.w.ax,bq s2.w.ar,bK s2.w.calls,bQ s2.w.seen,AV.val s2.lv],Own.row s2.lv 52 11 (s2.list.map Ev.cells),Own.box br 95 [bE code,AV.int (p1+1)]],λ⟨m,s2⟩=>cO (n+260+61*i+1+m) s2/\m<=60⟩ (λ⟨m,s2⟩=>60-m) (0,s1) U ?cU ?cV
    case cU=>exact⟨jJ.mono (by omega),by first|omega|(dsimp only;omega)|(dsimp only;push_cast;omega)|(push_cast;omega)|simp⟩
    case cV=>
     rintro⟨m,s2⟩ I a w aj U
     obtain⟨dC,hm⟩:=aj
     dsimp only at U
     refine aI λI a w U=>?_
     refine cz (λal=>?_) λal=>?_
     ·refine aF λI a w U=>?_
      refine U.o (.bd kW (.k (.k (.k bf.nil)))) λU=>?_
      refine U.cG [0,1] (nd bs br s2 ⟨4,0,0,m,1,0,0,0,0,0,0⟩ (n+260+61*i+1+m) dC (by omega) (ki)) (aw .tt (aw .tt aL)) rfl (by decide) rfl λr69 I a w Ju U=>?_
      obtain⟨sG,b69⟩:=r69
      change St _ _ [Own.box bs 75 [AV.val (.pointer (some ⟨br,0,none⟩)),AV.int sG.w.time,bR sG.w.ax,bq sG.w.ar,bK sG.w.calls,bQ sG.w.seen,AV.val sG.lv],Own.row sG.lv 52 11 (sG.list.map Ev.cells),Own.box br 95 [bE code,AV.int (p1+1)]] _ _ _ at U
      replace Ju:cO ((n+260+61*i+1+m)+1) sG:=Ju
      refine aI λI a w U=>?_
      exact U.ag (m+1,sG) (⟨Ju.mono (by omega),by first|omega|(dsimp only;omega)|(dsimp only;push_cast;omega)|(push_cast;omega)|simp⟩)
     ·refine zt ?_
      refine aI λI a w U=>?_
      exact U.ag (i+1,s2,p1+1) (⟨dC.mono (by omega),by first|omega|(dsimp only;omega)|(dsimp only;push_cast;omega)|(push_cast;omega)|simp,by first|omega|(dsimp only;omega)|(dsimp only;push_cast;omega)|(push_cast;omega)|simp,by first|omega|(dsimp only;omega)|(dsimp only;push_cast;omega)|(push_cast;omega)|simp⟩)
   ·refine zt ?_
    refine jT λI a w U=>?_
    have hhl:=jJ.ar
    obtain⟨hd,ehd⟩:∃hd:Int,(s1.w.ar.length:Int)=hd:=⟨_,rfl⟩
    rw[ehd] at U
    refine bt λI a w U=>?_
    refine U.eT [2] (fW br code (p1+1) (3) (by omega) bB) (aw .tt (aw .c aL)) rfl (by decide) rfl λI a w U=>?_
    change St _ _ [Own.box bs 75 [AV.val (.pointer (some ⟨br,0,none⟩)),AV.int s1.w.time,bR s1.w.ax,bq s1.w.ar,bK s1.w.calls,bQ s1.w.seen,AV.val s1.lv],Own.row s1.lv 52 11 (s1.list.map Ev.cells),Own.box br 95 [bE code,AV.int (p1+1+1)]] _ _ _ at U
    have aeT:=iY code (p1+1) (3)
    have aeU:=gT code (p1+1) (3) (by omega)
    try have aeV:=jl code (p1+1) (n:=3) (by omega)
    generalize dA code (p1+1) (3)=x80 at U aeT aeU aeV
    refine ai λI a w U=>?_
    refine St.lo (σ:=Int×dR×Int) (run 2 6 (run 42 81 [])) ⟨λ⟨y,s3,p3⟩=>[(6,AV.int y)],λ⟨y,s3,p3⟩=>[Own.box bs 75 [AV.val (.pointer (some ⟨br,0,none⟩)),AV.int s3.w.time,bR s3.w.ax,bq s3.w.ar,bK s3.w.calls,bQ s3.w.seen,AV.val s3.lv],Own.row s3.lv 52 11 (s3.list.map Ev.cells),Own.box br 95 [bE code,AV.int (p3)]],λ⟨y,s3,p3⟩=>cO (n+500+12*(2-y).toNat) s3/\0<=p3/\p3<=((n+500+12*(2-y).toNat:Nat):Int)/\0<=y/\y<=2⟩ (λ⟨y,s3,p3⟩=>y.toNat) (x80,s1,p1+1+1) U ?fo ?fq
    case fo=>exact⟨jJ.mono (by omega),by first|omega|(dsimp only;omega)|(dsimp only;push_cast;omega)|(push_cast;omega)|simp,by first|omega|(dsimp only;omega)|(dsimp only;push_cast;omega)|(push_cast;omega)|simp,by first|omega|(dsimp only;omega)|(dsimp only;push_cast;omega)|(push_cast;omega)|simp,by first|omega|(dsimp only;omega)|(dsimp only;push_cast;omega)|(push_cast;omega)|simp⟩
    case fq=>
     rintro⟨y,s3,p3⟩ I a w aj U
     obtain⟨oa,Ed,Ee,hy0,hy1⟩:=aj
     dsimp only at U
     refine aA λI a w U=>?_
     refine cz (λaH=>?_) λaH=>?_
     ·refine bt λI a w U=>?_
      refine U.eT [2] (fW br code (p3) (4) (by omega) bB) (aw .tt (aw .c aL)) rfl (by decide) rfl λI a w U=>?_
      change St _ _ [Own.box bs 75 [AV.val (.pointer (some ⟨br,0,none⟩)),AV.int s3.w.time,bR s3.w.ax,bq s3.w.ar,bK s3.w.calls,bQ s3.w.seen,AV.val s3.lv],Own.row s3.lv 52 11 (s3.list.map Ev.cells),Own.box br 95 [bE code,AV.int (p3+1)]] _ _ _ at U
      have aeZ:=iY code (p3) (4)
      have ae0:=gT code (p3) (4) (by omega)
      try have ae1:=jl code (p3) (n:=4) (by omega)
      generalize dA code (p3) (4)=Jv at U aeZ ae0 ae1
      refine bM λI a w U=>?_
      refine U.eT [2] (fW br code (p3+1) (3) (by omega) bB) (aw .tt (aw .c aL)) rfl (by decide) rfl λI a w U=>?_
      change St _ _ [Own.box bs 75 [AV.val (.pointer (some ⟨br,0,none⟩)),AV.int s3.w.time,bR s3.w.ax,bq s3.w.ar,bK s3.w.calls,bQ s3.w.seen,AV.val s3.lv],Own.row s3.lv 52 11 (s3.list.map Ev.cells),Own.box br 95 [bE code,AV.int (p3+1+1)]] _ _ _ at U
      have ae2:=iY code (p3+1) (3)
      have ae3:=gT code (p3+1) (3) (by omega)
      try have ae4:=jl code (p3+1) (n:=3) (by omega)
      generalize dA code (p3+1) (3)=x94 at U ae2 ae3 ae4
      refine aA λI a w U=>?_
      refine U.cd (λaM=>?_) λaM=>?_
      ·refine aF λI a w U=>?_
       refine U.o (.bd kW (.k (.k bf.nil))) λU=>?_
       refine U.cG [0,1] (nd bs br s3 ⟨6,Jv,0,0,0,0,0,0,0,0,0⟩ (n+500+12*(2-y).toNat+2) (oa.mono (by omega)) (by omega) (ki)) (aw .tt (aw .tt aL)) rfl (by decide) rfl λae5 I a w Jw U=>?_
       obtain⟨sH,alN⟩:=ae5
       change St _ _ [Own.box bs 75 [AV.val (.pointer (some ⟨br,0,none⟩)),AV.int sH.w.time,bR sH.w.ax,bq sH.w.ar,bK sH.w.calls,bQ sH.w.seen,AV.val sH.lv],Own.row sH.lv 52 11 (sH.list.map Ev.cells),Own.box br 95 [bE code,AV.int (p3+1+1)]] _ _ _ at U
       replace Jw:cO ((n+500+12*(2-y).toNat+2)+1) sH:=Jw
       refine aF λI a w U=>?_
       refine U.o (.bd kW (.k (.k bf.nil))) λU=>?_
       refine U.cG [0,1] (nd bs br sH ⟨7,Jv,0,0,0,0,0,0,0,0,0⟩ (n+500+12*(2-y).toNat+3) Jw (by omega) (ki)) (aw .tt (aw .tt aL)) rfl (by decide) rfl λae6 I a w Jy U=>?_
       obtain⟨sI,alO⟩:=ae6
       change St _ _ [Own.box bs 75 [AV.val (.pointer (some ⟨br,0,none⟩)),AV.int sI.w.time,bR sI.w.ax,bq sI.w.ar,bK sI.w.calls,bQ sI.w.seen,AV.val sI.lv],Own.row sI.lv 52 11 (sI.list.map Ev.cells),Own.box br 95 [bE code,AV.int (p3+1+1)]] _ _ _ at U
       replace Jy:cO ((n+500+12*(2-y).toNat+3)+1) sI:=Jy
       refine aI λI a w U=>?_
       exact U.ag (y-1,sI,p3+1+1) (⟨Jy.mono (by omega),by first|omega|(dsimp only;omega)|(dsimp only;push_cast;omega)|(push_cast;omega)|simp,by first|omega|(dsimp only;omega)|(dsimp only;push_cast;omega)|(push_cast;omega)|simp,by first|omega|(dsimp only;omega)|(dsimp only;push_cast;omega)|(push_cast;omega)|simp,by first|omega|(dsimp only;omega)|(dsimp only;push_cast;omega)|(push_cast;omega)|simp⟩)
      ·refine aA λI a w U=>?_
       refine U.cd (λbh=>?_) λbh=>?_
       ·refine dD λI a w U=>?_
        refine U.eT [2] (fW br code (p3+1+1) (3) (by omega) bB) (aw .tt (aw .c aL)) rfl (by decide) rfl λI a w U=>?_
        change St _ _ [Own.box bs 75 [AV.val (.pointer (some ⟨br,0,none⟩)),AV.int s3.w.time,bR s3.w.ax,bq s3.w.ar,bK s3.w.calls,bQ s3.w.seen,AV.val s3.lv],Own.row s3.lv 52 11 (s3.list.map Ev.cells),Own.box br 95 [bE code,AV.int (p3+1+1+1)]] _ _ _ at U
        have Jz:=iY code (p3+1+1) (3)
        have JA:=gT code (p3+1+1) (3) (by omega)
        try have JB:=jl code (p3+1+1) (n:=3) (by omega)
        generalize dA code (p3+1+1) (3)=JC at U Jz JA JB
        refine U.o (.bd kW (.k (.k (.k bf.nil)))) λU=>?_
        refine U.cG [0,1] (nd bs br s3 ⟨9,Jv,0,0,0,JC,0,0,0,0,0⟩ (n+500+12*(2-y).toNat+3) (oa.mono (by omega)) (by omega) (ki)) (aw .tt (aw .tt aL)) rfl (by decide) rfl λJD I a w xD U=>?_
        obtain⟨kR,ae7⟩:=JD
        change St _ _ [Own.box bs 75 [AV.val (.pointer (some ⟨br,0,none⟩)),AV.int kR.w.time,bR kR.w.ax,bq kR.w.ar,bK kR.w.calls,bQ kR.w.seen,AV.val kR.lv],Own.row kR.lv 52 11 (kR.list.map Ev.cells),Own.box br 95 [bE code,AV.int (p3+1+1+1)]] _ _ _ at U
        replace xD:cO ((n+500+12*(2-y).toNat+3)+1) kR:=xD
        refine aI λI a w U=>?_
        exact U.ag (y-1,kR,p3+1+1+1) (⟨xD.mono (by omega),by first|omega|(dsimp only;omega)|(dsimp only;push_cast;omega)|(push_cast;omega)|simp,by first|omega|(dsimp only;omega)|(dsimp only;push_cast;omega)|(push_cast;omega)|simp,by first|omega|(dsimp only;omega)|(dsimp only;push_cast;omega)|(push_cast;omega)|simp,by first|omega|(dsimp only;omega)|(dsimp only;push_cast;omega)|(push_cast;omega)|simp⟩)
       ·refine bM λI a w U=>?_
        refine U.eT [2] (fW br code (p3+1+1) (2) (by omega) bB) (aw .tt (aw .c aL)) rfl (by decide) rfl λI a w U=>?_
        change St _ _ [Own.box bs 75 [AV.val (.pointer (some ⟨br,0,none⟩)),AV.int s3.w.time,bR s3.w.ax,bq s3.w.ar,bK s3.w.calls,bQ s3.w.seen,AV.val s3.lv],Own.row s3.lv 52 11 (s3.list.map Ev.cells),Own.box br 95 [bE code,AV.int (p3+1+1+1)]] _ _ _ at U
        have RJ:=iY code (p3+1+1) (2)
        have RL:=gT code (p3+1+1) (2) (by omega)
        try have ae8:=jl code (p3+1+1) (n:=2) (by omega)
        generalize dA code (p3+1+1) (2)=ae9 at U RJ RL ae8
        refine U.cG [0,1,2] (Bv bs br code bB s3 (p3+1+1+1) (n+500+12*(2-y).toNat+3) (oa.mono (by omega)) (by omega) (by omega) (by omega) ae9 (CI RJ RL.2)) (aw .tt (aw .tt aL)) rfl (by decide) rfl λafa I a w JE U=>?_
        obtain⟨sJ,Ei⟩:=afa
        change St _ _ [Own.box bs 75 [AV.val (.pointer (some ⟨br,0,none⟩)),AV.int sJ.w.time,bR sJ.w.ax,bq sJ.w.ar,bK sJ.w.calls,bQ sJ.w.seen,AV.val sJ.lv],Own.row sJ.lv 52 11 (sJ.list.map Ev.cells),Own.box br 95 [bE code,AV.int (Ei)]] _ _ _ at U
        replace JE:cO ((n+500+12*(2-y).toNat+3)+8) sJ/\0<=Ei/\Ei<=(((n+500+12*(2-y).toNat+3)+8:Nat):Int):=JE
        obtain⟨afb,alP,alQ⟩:=JE
        refine aI λI a w U=>?_
        exact U.ag (y-1,sJ,Ei) (⟨afb.mono (by omega),by first|omega|(dsimp only;omega)|(dsimp only;push_cast;omega)|(push_cast;omega)|simp,by first|omega|(dsimp only;omega)|(dsimp only;push_cast;omega)|(push_cast;omega)|simp,by first|omega|(dsimp only;omega)|(dsimp only;push_cast;omega)|(push_cast;omega)|simp,by first|omega|(dsimp only;omega)|(dsimp only;push_cast;omega)|(push_cast;omega)|simp⟩)
     ·refine zt ?_
      refine ai λI a w U=>?_
      refine St.lo (σ:=Nat×dR) (8::(run 18 123 [])) ⟨λ⟨z,s4⟩=>[(8,AV.int z)],λ⟨z,s4⟩=>[Own.box bs 75 [AV.val (.pointer (some ⟨br,0,none⟩)),AV.int s4.w.time,bR s4.w.ax,bq s4.w.ar,bK s4.w.calls,bQ s4.w.seen,AV.val s4.lv],Own.row s4.lv 52 11 (s4.list.map Ev.cells),Own.box br 95 [bE code,AV.int (p3)]],λ⟨z,s4⟩=>cO (n+540+z) s4/\z<=16⟩ (λ⟨z,s4⟩=>16-z) (0,s3) U ?q8 ?q9
      case q8=>exact⟨oa.mono (by omega),by first|omega|(dsimp only;omega)|(dsimp only;push_cast;omega)|(push_cast;omega)|simp⟩
      case q9=>
       rintro⟨z,s4⟩ I a w aj U
       obtain⟨lD,hz⟩:=aj
       dsimp only at U
       refine Ae λI a w U=>?_
       refine cz (λaZ=>?_) λaZ=>?_
       ·refine aF λI a w U=>?_
        refine U.o (.bd kW (.k (.k bf.nil))) λU=>?_
        refine U.cG [0,1] (nd bs br s4 ⟨4,0,0,hd,0,0,0,0,0,0,0⟩ (n+540+z) lD (by omega) (ki)) (aw .tt (aw .tt aL)) rfl (by decide) rfl λafc I a w JF U=>?_
        obtain⟨sK,alR⟩:=afc
        change St _ _ [Own.box bs 75 [AV.val (.pointer (some ⟨br,0,none⟩)),AV.int sK.w.time,bR sK.w.ax,bq sK.w.ar,bK sK.w.calls,bQ sK.w.seen,AV.val sK.lv],Own.row sK.lv 52 11 (sK.list.map Ev.cells),Own.box br 95 [bE code,AV.int (p3)]] _ _ _ at U
        replace JF:cO ((n+540+z)+1) sK:=JF
        refine aI λI a w U=>?_
        exact U.ag (z+1,sK) (⟨JF.mono (by omega),by first|omega|(dsimp only;omega)|(dsimp only;push_cast;omega)|(push_cast;omega)|simp⟩)
       ·refine zt ?_
        refine U.m λU=>?_
        refine U.cG [0,1,2] (Bu bs br code bB s4 (p3) (n+560) (lD.mono (by omega)) (by omega) (by omega) (by omega) 60 0 (by omega)) (aw .tt (aw .c (aw .c aL))) rfl (by decide) rfl λafd I a w JG U=>?_
        obtain⟨sL,Ej⟩:=afd
        change St _ _ [Own.box bs 75 [AV.val (.pointer (some ⟨br,0,none⟩)),AV.int sL.w.time,bR sL.w.ax,bq sL.w.ar,bK sL.w.calls,bQ sL.w.seen,AV.val sL.lv],Own.row sL.lv 52 11 (sL.list.map Ev.cells),Own.box br 95 [bE code,AV.int (Ej)]] _ _ _ at U
        replace JG:cO ((n+560)+240) sL/\0<=Ej/\Ej<=(((n+560)+240:Nat):Int):=JG
        obtain⟨afe,alS,alT⟩:=JG
        refine wpList_nil ?_
        refine U.nv (sL,Ej) [0,1,2] rfl .nil (by(try dsimp only);exact⟨afe.mono (by omega),by first|omega|(dsimp only;omega)|(dsimp only;push_cast;omega)|(push_cast;omega)|simp,by first|omega|(dsimp only;omega)|(dsimp only;push_cast;omega)|(push_cast;omega)|simp⟩) rfl rfl
set_option maxHeartbeats 8000000 in
theorem aff (bs br:Nat) (code:List UInt8) (bB:code.length<=1099511627776) (s:dR) (p:Int) (n:Nat) (h:cO n s) (h0:0<=p) (h1:p<=n) (hn:n<=870000) (uu:Int):
 c7 Tryz.prog 64 [AV.val (.pointer (some ⟨bs,0,none⟩)),AV.int uu] [Own.box bs 75 [AV.val (.pointer (some ⟨br,0,none⟩)),AV.int s.w.time,bR s.w.ax,bq s.w.ar,bK s.w.calls,bQ s.w.seen,AV.val s.lv],Own.row s.lv 52 11 (s.list.map Ev.cells),Own.box br 95 [bE code,AV.int (p)]] (λr:dR×Int=>cO (n+850) r.1/\0<=r.2/\r.2<=((n+850:Nat):Int)) (λr=>[Own.box bs 75 [AV.val (.pointer (some ⟨br,0,none⟩)),AV.int r.1.w.time,bR r.1.w.ax,bq r.1.w.ar,bK r.1.w.calls,bQ r.1.w.seen,AV.val r.1.lv],Own.row r.1.lv 52 11 (r.1.list.map Ev.cells),Own.box br 95 [bE code,AV.int (r.2)]]) (λ_=>AV.dx []):=by
 refine c7.intro 128 Tryz.func64 rfl Tryz.ntmps64 rfl (by kernel_rfl) (λW I a U=>?_)
 refine bt λI a w U=>?_
 refine U.eT [2] (fW br code (p) (4) (by omega) bB) (aw .tt (aw .c aL)) rfl (by decide) rfl λI a w U=>?_
 change St _ _ [Own.box bs 75 [AV.val (.pointer (some ⟨br,0,none⟩)),AV.int s.w.time,bR s.w.ax,bq s.w.ar,bK s.w.calls,bQ s.w.seen,AV.val s.lv],Own.row s.lv 52 11 (s.list.map Ev.cells),Own.box br 95 [bE code,AV.int (p+1)]] _ _ _ at U
 have lo9:=iY code (p) (4)
 have hi9:=gT code (p) (4) (by omega)
 try have hj9:=jl code (p) (n:=4) (by omega)
 generalize dA code (p) (4)=x9 at U lo9 hi9 hj9
 refine bM λI a w U=>?_
 refine U.eT [2] (fW br code (p+1) (20) (by omega) bB) (aw .tt (aw .c aL)) rfl (by decide) rfl λI a w U=>?_
 change St _ _ [Own.box bs 75 [AV.val (.pointer (some ⟨br,0,none⟩)),AV.int s.w.time,bR s.w.ax,bq s.w.ar,bK s.w.calls,bQ s.w.seen,AV.val s.lv],Own.row s.lv 52 11 (s.list.map Ev.cells),Own.box br 95 [bE code,AV.int (p+1+1)]] _ _ _ at U
 have afj:=iY code (p+1) (20)
 have afk:=gT code (p+1) (20) (by omega)
 try have afl:=jl code (p+1) (n:=20) (by omega)
 generalize dA code (p+1) (20)=mH at U afj afk afl
 refine nn<|wp_block ?_
 refine St.cut (σ:=Bool) (run 6 26 []) ⟨λbb=>[(26,AV.bool bb)],λbb=>[Own.box bs 75 [AV.val (.pointer (some ⟨br,0,none⟩)),AV.int s.w.time,bR s.w.ax,bq s.w.ar,bK s.w.calls,bQ s.w.seen,AV.val s.lv],Own.row s.lv 52 11 (s.list.map Ev.cells),Own.box br 95 [bE code,AV.int (p+1+1)]],λbb=>True⟩ U ?afm ?afn
 case afm=>
  refine aA λI a w U=>?_
  refine U.cd (λae=>?_) λae=>?_
  ·refine zt ?_
   exact U.me (mH==0) (by trivial)
  ·refine aA λI a w U=>?_
   refine U.cd (λah=>?_) λah=>?_
   ·refine zt ?_
    exact U.me (mH==1) (by trivial)
   ·refine aA λI a w U=>?_
    refine U.cd (λal=>?_) λal=>?_
    ·refine zt ?_
     exact U.me (mH==2) (by trivial)
    ·refine aA λI a w U=>?_
     refine U.cd (λaH=>?_) λaH=>?_
     ·refine zt ?_
      exact U.me (mH==3) (by trivial)
     ·refine aA λI a w U=>?_
      exact U.me (mH==4) (by trivial)
 case afn=>
  rintro bb I a w aj U
  dsimp only at U
  refine U.cd (λaM=>?_) λaM=>?_
  ·refine bM λI a w U=>?_
   refine U.eT [2] (fW br code (p+1+1) (2) (by omega) bB) (aw .tt (aw .c aL)) rfl (by decide) rfl λI a w U=>?_
   change St _ _ [Own.box bs 75 [AV.val (.pointer (some ⟨br,0,none⟩)),AV.int s.w.time,bR s.w.ax,bq s.w.ar,bK s.w.calls,bQ s.w.seen,AV.val s.lv],Own.row s.lv 52 11 (s.list.map Ev.cells),Own.box br 95 [bE code,AV.int (p+1+1+1)]] _ _ _ at U
   have RM:=iY code (p+1+1) (2)
   have RN:=gT code (p+1+1) (2) (by omega)
   try have afo:=jl code (p+1+1) (n:=2) (by omega)
   generalize dA code (p+1+1) (2)=x37 at U RM RN afo
   refine U.cG [0,1,2] (Bv bs br code bB s (p+1+1+1) (n+3) (h.mono (by omega)) (by omega) (by omega) (by omega) x37 (CI RM RN.2)) (aw .tt (aw .tt aL)) rfl (by decide) rfl λr38 I a w Bg U=>?_
   obtain⟨mf,sM⟩:=r38
   change St _ _ [Own.box bs 75 [AV.val (.pointer (some ⟨br,0,none⟩)),AV.int mf.w.time,bR mf.w.ax,bq mf.w.ar,bK mf.w.calls,bQ mf.w.seen,AV.val mf.lv],Own.row mf.lv 52 11 (mf.list.map Ev.cells),Own.box br 95 [bE code,AV.int (sM)]] _ _ _ at U
   replace Bg:cO ((n+3)+8) mf/\0<=sM/\sM<=(((n+3)+8:Nat):Int):=Bg
   obtain⟨k38,l38,u38⟩:=Bg
   refine bM λI a w U=>?_
   refine U.eT [2] (fW br code (sM) (14) (by omega) bB) (aw .tt (aw .c aL)) rfl (by decide) rfl λI a w U=>?_
   change St _ _ [Own.box bs 75 [AV.val (.pointer (some ⟨br,0,none⟩)),AV.int mf.w.time,bR mf.w.ax,bq mf.w.ar,bK mf.w.calls,bQ mf.w.seen,AV.val mf.lv],Own.row mf.lv 52 11 (mf.list.map Ev.cells),Own.box br 95 [bE code,AV.int (sM+1)]] _ _ _ at U
   have afs:=iY code (sM) (14)
   have aft:=gT code (sM) (14) (by omega)
   try have afu:=jl code (sM) (n:=14) (by omega)
   generalize dA code (sM) (14)=x44 at U afs aft afu
   refine U.m λU=>?_
   refine U.cG [0,1,2] (Bu bs br code bB mf (sM+1) (n+12) (k38.mono (by omega)) (by omega) (by omega) (by omega) x44 uu (by omega)) (aw .tt (aw .tt (aw .tt aL))) rfl (by decide) rfl λr46 I a w JH U=>?_
   obtain⟨sN,Ek⟩:=r46
   change St _ _ [Own.box bs 75 [AV.val (.pointer (some ⟨br,0,none⟩)),AV.int sN.w.time,bR sN.w.ax,bq sN.w.ar,bK sN.w.calls,bQ sN.w.seen,AV.val sN.lv],Own.row sN.lv 52 11 (sN.list.map Ev.cells),Own.box br 95 [bE code,AV.int (Ek)]] _ _ _ at U
   replace JH:cO ((n+12)+240) sN/\0<=Ek/\Ek<=(((n+12)+240:Nat):Int):=JH
   obtain⟨k46,l46,u46⟩:=JH
   refine zt ?_
   refine U.nv (sN,Ek) [0,1,2] rfl .nil (by(try dsimp only);exact⟨k46.mono (by omega),by first|omega|(dsimp only;omega)|(dsimp only;push_cast;omega)|(push_cast;omega)|simp,by first|omega|(dsimp only;omega)|(dsimp only;push_cast;omega)|(push_cast;omega)|simp⟩) rfl rfl
  ·refine St.cut (σ:=Bool) (47::48::49::50::51::[]) ⟨λbb=>[(47,AV.bool bb)],λbb=>[Own.box bs 75 [AV.val (.pointer (some ⟨br,0,none⟩)),AV.int s.w.time,bR s.w.ax,bq s.w.ar,bK s.w.calls,bQ s.w.seen,AV.val s.lv],Own.row s.lv 52 11 (s.list.map Ev.cells),Own.box br 95 [bE code,AV.int (p+1+1)]],λbb=>True⟩ U ?IY ?IZ
   case IY=>
    refine aA λI a w U=>?_
    refine U.cd (λbh=>?_) λbh=>?_
    ·refine zt ?_
     exact U.me (mH==5) (by trivial)
    ·refine aA λI a w U=>?_
     refine U.cd (λaZ=>?_) λaZ=>?_
     ·refine zt ?_
      exact U.me (mH==6) (by trivial)
     ·refine aA λI a w U=>?_
      refine U.cd (λbV=>?_) λbV=>?_
      ·refine zt ?_
       exact U.me (mH==7) (by trivial)
      ·refine aA λI a w U=>?_
       exact U.me (mH==8) (by trivial)
   case IZ=>
    rintro bb I a w aj U
    dsimp only at U
    refine U.cd (λcY=>?_) λcY=>?_
    ·refine aF λI a w U=>?_
     refine U.o (.bd kW (.k (.k bf.nil))) λU=>?_
     refine U.cG [0,1] (nd bs br s ⟨8,x9,0,0,0,0,0,0,0,0,0⟩ (n+2) (h.mono (by omega)) (by omega) (ki)) (aw .tt (aw .tt aL)) rfl (by decide) rfl λr55 I a w JI U=>?_
     obtain⟨mg,b55⟩:=r55
     change St _ _ [Own.box bs 75 [AV.val (.pointer (some ⟨br,0,none⟩)),AV.int mg.w.time,bR mg.w.ax,bq mg.w.ar,bK mg.w.calls,bQ mg.w.seen,AV.val mg.lv],Own.row mg.lv 52 11 (mg.list.map Ev.cells),Own.box br 95 [bE code,AV.int (p+1+1)]] _ _ _ at U
     replace JI:cO ((n+2)+1) mg:=JI
     refine bM λI a w U=>?_
     refine U.eT [2] (fW br code (p+1+1) (14) (by omega) bB) (aw .tt (aw .c aL)) rfl (by decide) rfl λI a w U=>?_
     change St _ _ [Own.box bs 75 [AV.val (.pointer (some ⟨br,0,none⟩)),AV.int mg.w.time,bR mg.w.ax,bq mg.w.ar,bK mg.w.calls,bQ mg.w.seen,AV.val mg.lv],Own.row mg.lv 52 11 (mg.list.map Ev.cells),Own.box br 95 [bE code,AV.int (p+1+1+1)]] _ _ _ at U
     have afz:=iY code (p+1+1) (14)
     have afA:=gT code (p+1+1) (14) (by omega)
     try have afB:=jl code (p+1+1) (n:=14) (by omega)
     generalize dA code (p+1+1) (14)=x61 at U afz afA afB
     refine U.m λU=>?_
     refine U.cG [0,1,2] (Bu bs br code bB mg (p+1+1+1) (n+3) JI (by omega) (by omega) (by omega) x61 uu (by omega)) (aw .tt (aw .tt (aw .tt aL))) rfl (by decide) rfl λr63 I a w JJ U=>?_
     obtain⟨sO,El⟩:=r63
     change St _ _ [Own.box bs 75 [AV.val (.pointer (some ⟨br,0,none⟩)),AV.int sO.w.time,bR sO.w.ax,bq sO.w.ar,bK sO.w.calls,bQ sO.w.seen,AV.val sO.lv],Own.row sO.lv 52 11 (sO.list.map Ev.cells),Own.box br 95 [bE code,AV.int (El)]] _ _ _ at U
     replace JJ:cO ((n+3)+240) sO/\0<=El/\El<=(((n+3)+240:Nat):Int):=JJ
     obtain⟨k63,l63,u63⟩:=JJ
     refine zt ?_
     refine U.nv (sO,El) [0,1,2] rfl .nil (by(try dsimp only);exact⟨k63.mono (by omega),by first|omega|(dsimp only;omega)|(dsimp only;push_cast;omega)|(push_cast;omega)|simp,by first|omega|(dsimp only;omega)|(dsimp only;push_cast;omega)|(push_cast;omega)|simp⟩) rfl rfl
    ·refine St.cut (σ:=Bool) (64::65::66::[]) ⟨λbb=>[(64,AV.bool bb)],λbb=>[Own.box bs 75 [AV.val (.pointer (some ⟨br,0,none⟩)),AV.int s.w.time,bR s.w.ax,bq s.w.ar,bK s.w.calls,bQ s.w.seen,AV.val s.lv],Own.row s.lv 52 11 (s.list.map Ev.cells),Own.box br 95 [bE code,AV.int (p+1+1)]],λbb=>True⟩ U ?afF ?afG
     case afF=>
      refine aA λI a w U=>?_
      refine U.cd (λfw=>?_) λfw=>?_
      ·refine zt ?_
       exact U.me (mH==9) (by trivial)
      ·refine aA λI a w U=>?_
       exact U.me (mH==10) (by trivial)
     case afG=>
      rintro bb I a w aj U
      dsimp only at U
      refine U.cd (λjF=>?_) λjF=>?_
      ·refine bM λI a w U=>?_
       refine U.eT [2] (fW br code (p+1+1) (24) (by omega) bB) (aw .tt (aw .c aL)) rfl (by decide) rfl λI a w U=>?_
       change St _ _ [Own.box bs 75 [AV.val (.pointer (some ⟨br,0,none⟩)),AV.int s.w.time,bR s.w.ax,bq s.w.ar,bK s.w.calls,bQ s.w.seen,AV.val s.lv],Own.row s.lv 52 11 (s.list.map Ev.cells),Own.box br 95 [bE code,AV.int (p+1+1+1)]] _ _ _ at U
       have afH:=iY code (p+1+1) (24)
       have afI:=gT code (p+1+1) (24) (by omega)
       try have afJ:=jl code (p+1+1) (n:=24) (by omega)
       generalize dA code (p+1+1) (24)=x72 at U afH afI afJ
       refine U.m λU=>?_
       refine U.cG [0,1,2] (Bu bs br code bB s (p+1+1+1) (n+3) (h.mono (by omega)) (by omega) (by omega) (by omega) x72 uu (by omega)) (aw .tt (aw .tt (aw .tt aL))) rfl (by decide) rfl λr74 I a w JK U=>?_
       obtain⟨sP,Em⟩:=r74
       change St _ _ [Own.box bs 75 [AV.val (.pointer (some ⟨br,0,none⟩)),AV.int sP.w.time,bR sP.w.ax,bq sP.w.ar,bK sP.w.calls,bQ sP.w.seen,AV.val sP.lv],Own.row sP.lv 52 11 (sP.list.map Ev.cells),Own.box br 95 [bE code,AV.int (Em)]] _ _ _ at U
       replace JK:cO ((n+3)+240) sP/\0<=Em/\Em<=(((n+3)+240:Nat):Int):=JK
       obtain⟨k74,l74,u74⟩:=JK
       refine zt ?_
       refine U.nv (sP,Em) [0,1,2] rfl .nil (by(try dsimp only);exact⟨k74.mono (by omega),by first|omega|(dsimp only;omega)|(dsimp only;push_cast;omega)|(push_cast;omega)|simp,by first|omega|(dsimp only;omega)|(dsimp only;push_cast;omega)|(push_cast;omega)|simp⟩) rfl rfl
      ·refine aA λI a w U=>?_
       refine U.cd (λEn=>?_) λEn=>?_
       ·refine aF λI a w U=>?_
        refine U.o (.bd kW (.k (.k bf.nil))) λU=>?_
        refine U.cG [0,1] (nd bs br s ⟨6,x9,0,0,0,0,0,0,0,0,0⟩ (n+2) (h.mono (by omega)) (by omega) (ki)) (aw .tt (aw .tt aL)) rfl (by decide) rfl λr80 I a w JL U=>?_
        obtain⟨sQ,b80⟩:=r80
        change St _ _ [Own.box bs 75 [AV.val (.pointer (some ⟨br,0,none⟩)),AV.int sQ.w.time,bR sQ.w.ax,bq sQ.w.ar,bK sQ.w.calls,bQ sQ.w.seen,AV.val sQ.lv],Own.row sQ.lv 52 11 (sQ.list.map Ev.cells),Own.box br 95 [bE code,AV.int (p+1+1)]] _ _ _ at U
        replace JL:cO ((n+2)+1) sQ:=JL
        refine zt ?_
        refine U.nv (sQ,p+1+1) [0,1,2] rfl .nil (by(try dsimp only);exact⟨JL.mono (by omega),by first|omega|(dsimp only;omega)|(dsimp only;push_cast;omega)|(push_cast;omega)|simp,by first|omega|(dsimp only;omega)|(dsimp only;push_cast;omega)|(push_cast;omega)|simp⟩) rfl rfl
       ·refine St.cut (σ:=Bool) (81::82::83::[]) ⟨λbb=>[(81,AV.bool bb)],λbb=>[Own.box bs 75 [AV.val (.pointer (some ⟨br,0,none⟩)),AV.int s.w.time,bR s.w.ax,bq s.w.ar,bK s.w.calls,bQ s.w.seen,AV.val s.lv],Own.row s.lv 52 11 (s.list.map Ev.cells),Own.box br 95 [bE code,AV.int (p+1+1)]],λbb=>True⟩ U ?afO ?afP
        case afO=>
         refine aA λI a w U=>?_
         refine U.cd (λEo=>?_) λEo=>?_
         ·refine zt ?_
          exact U.me (mH==12) (by trivial)
         ·refine aA λI a w U=>?_
          exact U.me (mH==13) (by trivial)
        case afP=>
         rintro bb I a w aj U
         dsimp only at U
         refine U.cd (λBw=>?_) λBw=>?_
         ·refine aF λI a w U=>?_
          refine U.o (.bd kW (.k (.k bf.nil))) λU=>?_
          refine U.cG [0,1] (nd bs br s ⟨7,x9,0,0,0,0,0,0,0,0,0⟩ (n+2) (h.mono (by omega)) (by omega) (ki)) (aw .tt (aw .tt aL)) rfl (by decide) rfl λr87 I a w JM U=>?_
          obtain⟨sR,b87⟩:=r87
          change St _ _ [Own.box bs 75 [AV.val (.pointer (some ⟨br,0,none⟩)),AV.int sR.w.time,bR sR.w.ax,bq sR.w.ar,bK sR.w.calls,bQ sR.w.seen,AV.val sR.lv],Own.row sR.lv 52 11 (sR.list.map Ev.cells),Own.box br 95 [bE code,AV.int (p+1+1)]] _ _ _ at U
          replace JM:cO ((n+2)+1) sR:=JM
          refine zt ?_
          refine U.nv (sR,p+1+1) [0,1,2] rfl .nil (by(try dsimp only);exact⟨JM.mono (by omega),by first|omega|(dsimp only;omega)|(dsimp only;push_cast;omega)|(push_cast;omega)|simp,by first|omega|(dsimp only;omega)|(dsimp only;push_cast;omega)|(push_cast;omega)|simp⟩) rfl rfl
         ·refine St.cut (σ:=Bool) (88::89::90::[]) ⟨λbb=>[(88,AV.bool bb)],λbb=>[Own.box bs 75 [AV.val (.pointer (some ⟨br,0,none⟩)),AV.int s.w.time,bR s.w.ax,bq s.w.ar,bK s.w.calls,bQ s.w.seen,AV.val s.lv],Own.row s.lv 52 11 (s.list.map Ev.cells),Own.box br 95 [bE code,AV.int (p+1+1)]],λbb=>True⟩ U ?afR ?afS
          case afR=>
           refine aA λI a w U=>?_
           refine U.cd (λsS=>?_) λsS=>?_
           ·refine zt ?_
            exact U.me (mH==14) (by trivial)
           ·refine aA λI a w U=>?_
            exact U.me (mH==15) (by trivial)
          case afS=>
           rintro bb I a w aj U
           dsimp only at U
           refine U.cd (λafT=>?_) λafT=>?_
           ·refine dD λI a w U=>?_
            refine U.eT [2] (fW br code (p+1+1) (3) (by omega) bB) (aw .tt (aw .c aL)) rfl (by decide) rfl λI a w U=>?_
            change St _ _ [Own.box bs 75 [AV.val (.pointer (some ⟨br,0,none⟩)),AV.int s.w.time,bR s.w.ax,bq s.w.ar,bK s.w.calls,bQ s.w.seen,AV.val s.lv],Own.row s.lv 52 11 (s.list.map Ev.cells),Own.box br 95 [bE code,AV.int (p+1+1+1)]] _ _ _ at U
            have afU:=iY code (p+1+1) (3)
            have afV:=gT code (p+1+1) (3) (by omega)
            try have afW:=jl code (p+1+1) (n:=3) (by omega)
            generalize dA code (p+1+1) (3)=x97 at U afU afV afW
            refine U.o (.bd kW (.k (.k (.k bf.nil)))) λU=>?_
            refine U.cG [0,1] (nd bs br s ⟨9,x9,0,0,0,x97,0,0,0,0,0⟩ (n+3) (h.mono (by omega)) (by omega) (ki)) (aw .tt (aw .tt aL)) rfl (by decide) rfl λr99 I a w JN U=>?_
            obtain⟨mh,b99⟩:=r99
            change St _ _ [Own.box bs 75 [AV.val (.pointer (some ⟨br,0,none⟩)),AV.int mh.w.time,bR mh.w.ax,bq mh.w.ar,bK mh.w.calls,bQ mh.w.seen,AV.val mh.lv],Own.row mh.lv 52 11 (mh.list.map Ev.cells),Own.box br 95 [bE code,AV.int (p+1+1+1)]] _ _ _ at U
            replace JN:cO ((n+3)+1) mh:=JN
            refine bM λI a w U=>?_
            refine U.eT [2] (fW br code (p+1+1+1) (8) (by omega) bB) (aw .tt (aw .c aL)) rfl (by decide) rfl λI a w U=>?_
            change St _ _ [Own.box bs 75 [AV.val (.pointer (some ⟨br,0,none⟩)),AV.int mh.w.time,bR mh.w.ax,bq mh.w.ar,bK mh.w.calls,bQ mh.w.seen,AV.val mh.lv],Own.row mh.lv 52 11 (mh.list.map Ev.cells),Own.box br 95 [bE code,AV.int (p+1+1+1+1)]] _ _ _ at U
            have afZ:=iY code (p+1+1+1) (8)
            have af0:=gT code (p+1+1+1) (8) (by omega)
            try have af1:=jl code (p+1+1+1) (n:=8) (by omega)
            generalize dA code (p+1+1+1) (8)=af2 at U afZ af0 af1
            refine U.cG [0,1,2] (RF bs br code bB mh (p+1+1+1+1) (n+4) JN (by omega) (by omega) (by omega) af2 (by omega)) (aw .tt (aw .tt aL)) rfl (by decide) rfl λaf3 I a w D4 U=>?_
            obtain⟨sT,Ep⟩:=af3
            change St _ _ [Own.box bs 75 [AV.val (.pointer (some ⟨br,0,none⟩)),AV.int sT.w.time,bR sT.w.ax,bq sT.w.ar,bK sT.w.calls,bQ sT.w.seen,AV.val sT.lv],Own.row sT.lv 52 11 (sT.list.map Ev.cells),Own.box br 95 [bE code,AV.int (Ep)]] _ _ _ at U
            replace D4:cO ((n+4)+60) sT/\0<=Ep/\Ep<=(((n+4)+60:Nat):Int):=D4
            obtain⟨af4,al6,al7⟩:=D4
            refine zt ?_
            refine U.nv (sT,Ep) [0,1,2] rfl .nil (by(try dsimp only);exact⟨af4.mono (by omega),by first|omega|(dsimp only;omega)|(dsimp only;push_cast;omega)|(push_cast;omega)|simp,by first|omega|(dsimp only;omega)|(dsimp only;push_cast;omega)|(push_cast;omega)|simp⟩) rfl rfl
           ·refine aA λI a w U=>?_
            refine U.cd (λaf5=>?_) λaf5=>?_
            ·refine bt λI a w U=>?_
             refine U.eT [2] (fW br code (p+1+1) (3) (by omega) bB) (aw .tt (aw .c aL)) rfl (by decide) rfl λI a w U=>?_
             change St _ _ [Own.box bs 75 [AV.val (.pointer (some ⟨br,0,none⟩)),AV.int s.w.time,bR s.w.ax,bq s.w.ar,bK s.w.calls,bQ s.w.seen,AV.val s.lv],Own.row s.lv 52 11 (s.list.map Ev.cells),Own.box br 95 [bE code,AV.int (p+1+1+1)]] _ _ _ at U
             have af6:=iY code (p+1+1) (3)
             have af7:=gT code (p+1+1) (3) (by omega)
             try have af8:=jl code (p+1+1) (n:=3) (by omega)
             generalize dA code (p+1+1) (3)=al8 at U af6 af7 af8
             refine ai λI a w U=>?_
             refine U.cd (λRh=>?_) λRh=>?_
             ·refine bM λI a w U=>?_
              refine U.eT [2] (fW br code (p+1+1+1) (2) (by omega) bB) (aw .tt (aw .c aL)) rfl (by decide) rfl λI a w U=>?_
              change St _ _ [Own.box bs 75 [AV.val (.pointer (some ⟨br,0,none⟩)),AV.int s.w.time,bR s.w.ax,bq s.w.ar,bK s.w.calls,bQ s.w.seen,AV.val s.lv],Own.row s.lv 52 11 (s.list.map Ev.cells),Own.box br 95 [bE code,AV.int (p+1+1+1+1)]] _ _ _ at U
              have Jz:=iY code (p+1+1+1) (2)
              have JA:=gT code (p+1+1+1) (2) (by omega)
              try have JB:=jl code (p+1+1+1) (n:=2) (by omega)
              generalize dA code (p+1+1+1) (2)=JC at U Jz JA JB
              refine U.o (.bd kW (.k (.k bf.nil))) λU=>?_
              refine U.cG [0,1] (nd bs br s ⟨3,0,JC,0,0,0,0,0,0,0,0⟩ (n+4) (h.mono (by omega)) (by omega) (ki)) (aw .tt (aw .tt aL)) rfl (by decide) rfl λJD I a w xD U=>?_
              obtain⟨kR,ae7⟩:=JD
              change St _ _ [Own.box bs 75 [AV.val (.pointer (some ⟨br,0,none⟩)),AV.int kR.w.time,bR kR.w.ax,bq kR.w.ar,bK kR.w.calls,bQ kR.w.seen,AV.val kR.lv],Own.row kR.lv 52 11 (kR.list.map Ev.cells),Own.box br 95 [bE code,AV.int (p+1+1+1+1)]] _ _ _ at U
              replace xD:cO ((n+4)+1) kR:=xD
              refine zt ?_
              refine U.nv (kR,p+1+1+1+1) [0,1,2] rfl .nil (by(try dsimp only);exact⟨xD.mono (by omega),by first|omega|(dsimp only;omega)|(dsimp only;push_cast;omega)|(push_cast;omega)|simp,by first|omega|(dsimp only;omega)|(dsimp only;push_cast;omega)|(push_cast;omega)|simp⟩) rfl rfl
             ·refine zt ?_
              refine U.nv (s,p+1+1+1) [0,1,2] rfl .nil (by(try dsimp only);exact⟨h.mono (by omega),by first|omega|(dsimp only;omega)|(dsimp only;push_cast;omega)|(push_cast;omega)|simp,by first|omega|(dsimp only;omega)|(dsimp only;push_cast;omega)|(push_cast;omega)|simp⟩) rfl rfl
            ·refine St.cut (σ:=Bool) (123::124::125::[]) ⟨λbb=>[(123,AV.bool bb)],λbb=>[Own.box bs 75 [AV.val (.pointer (some ⟨br,0,none⟩)),AV.int s.w.time,bR s.w.ax,bq s.w.ar,bK s.w.calls,bQ s.w.seen,AV.val s.lv],Own.row s.lv 52 11 (s.list.map Ev.cells),Own.box br 95 [bE code,AV.int (p+1+1)]],λbb=>True⟩ U ?af9 ?aga
             case af9=>
              refine aA λI a w U=>?_
              refine U.cd (λagb=>?_) λagb=>?_
              ·refine zt ?_
               exact U.me (mH==17) (by trivial)
              ·refine aA λI a w U=>?_
               exact U.me (mH==18) (by trivial)
             case aga=>
              rintro bb I a w aj U
              dsimp only at U
              refine U.cd (λagc=>?_) λagc=>?_
              ·refine bH λI a w U=>?_
               refine U.cG [0,1,2] (aes bs br code bB s (p+1+1) (n+2) (h.mono (by omega)) (by omega) (by omega) (by omega)) (aw .tt aL) rfl (by decide) rfl λagd I a w JO U=>?_
               obtain⟨sU,Er⟩:=agd
               change St _ _ [Own.box bs 75 [AV.val (.pointer (some ⟨br,0,none⟩)),AV.int sU.w.time,bR sU.w.ax,bq sU.w.ar,bK sU.w.calls,bQ sU.w.seen,AV.val sU.lv],Own.row sU.lv 52 11 (sU.list.map Ev.cells),Own.box br 95 [bE code,AV.int (Er)]] _ _ _ at U
               replace JO:cO ((n+2)+800) sU/\0<=Er/\Er<=(((n+2)+800:Nat):Int):=JO
               obtain⟨age,al9,ama⟩:=JO
               refine zt ?_
               refine U.nv (sU,Er) [0,1,2] rfl .nil (by(try dsimp only);exact⟨age.mono (by omega),by first|omega|(dsimp only;omega)|(dsimp only;push_cast;omega)|(push_cast;omega)|simp,by first|omega|(dsimp only;omega)|(dsimp only;push_cast;omega)|(push_cast;omega)|simp⟩) rfl rfl
              ·refine bH λI a w U=>?_
               refine U.cG [0,1,2] (Bv bs br code bB s (p+1+1) (n+2) (h.mono (by omega)) (by omega) (by omega) (by omega) 0 (by unfold gA;omega)) (aw .tt (aw .c aL)) rfl (by decide) rfl λr16 I a w Bx U=>?_
               obtain⟨sV,Es⟩:=r16
               change St _ _ [Own.box bs 75 [AV.val (.pointer (some ⟨br,0,none⟩)),AV.int sV.w.time,bR sV.w.ax,bq sV.w.ar,bK sV.w.calls,bQ sV.w.seen,AV.val sV.lv],Own.row sV.lv 52 11 (sV.list.map Ev.cells),Own.box br 95 [bE code,AV.int (Es)]] _ _ _ at U
               replace Bx:cO ((n+2)+8) sV/\0<=Es/\Es<=(((n+2)+8:Nat):Int):=Bx
               obtain⟨k16,l16,u16⟩:=Bx
               refine bH λI a w U=>?_
               refine U.cG [0,1,2] (Bv bs br code bB sV (Es) (n+10) k16 (by omega) (by omega) (by omega) 1 (by unfold gA;omega)) (aw .tt (aw .c aL)) rfl (by decide) rfl λr18 I a w Et U=>?_
               obtain⟨mi,sW⟩:=r18
               change St _ _ [Own.box bs 75 [AV.val (.pointer (some ⟨br,0,none⟩)),AV.int mi.w.time,bR mi.w.ax,bq mi.w.ar,bK mi.w.calls,bQ mi.w.seen,AV.val mi.lv],Own.row mi.lv 52 11 (mi.list.map Ev.cells),Own.box br 95 [bE code,AV.int (sW)]] _ _ _ at U
               replace Et:cO ((n+10)+8) mi/\0<=sW/\sW<=(((n+10)+8:Nat):Int):=Et
               obtain⟨k18,l18,u18⟩:=Et
               refine bM λI a w U=>?_
               refine U.eT [2] (fW br code (sW) (30) (by omega) bB) (aw .tt (aw .c aL)) rfl (by decide) rfl λI a w U=>?_
               change St _ _ [Own.box bs 75 [AV.val (.pointer (some ⟨br,0,none⟩)),AV.int mi.w.time,bR mi.w.ax,bq mi.w.ar,bK mi.w.calls,bQ mi.w.seen,AV.val mi.lv],Own.row mi.lv 52 11 (mi.list.map Ev.cells),Own.box br 95 [bE code,AV.int (sW+1)]] _ _ _ at U
               have agk:=iY code (sW) (30)
               have agl:=gT code (sW) (30) (by omega)
               try have agm:=jl code (sW) (n:=30) (by omega)
               generalize dA code (sW) (30)=x24 at U agk agl agm
               refine U.cG [0,1,2] (RF bs br code bB mi (sW+1) (n+19) (k18.mono (by omega)) (by omega) (by omega) (by omega) x24 (by omega)) (aw .tt (aw .tt aL)) rfl (by decide) rfl λr25 I a w JP U=>?_
               obtain⟨sX,Eu⟩:=r25
               change St _ _ [Own.box bs 75 [AV.val (.pointer (some ⟨br,0,none⟩)),AV.int sX.w.time,bR sX.w.ax,bq sX.w.ar,bK sX.w.calls,bQ sX.w.seen,AV.val sX.lv],Own.row sX.lv 52 11 (sX.list.map Ev.cells),Own.box br 95 [bE code,AV.int (Eu)]] _ _ _ at U
               replace JP:cO ((n+19)+60) sX/\0<=Eu/\Eu<=(((n+19)+60:Nat):Int):=JP
               obtain⟨k25,l25,u25⟩:=JP
               refine zt ?_
               refine U.nv (sX,Eu) [0,1,2] rfl .nil (by(try dsimp only);exact⟨k25.mono (by omega),by first|omega|(dsimp only;omega)|(dsimp only;push_cast;omega)|(push_cast;omega)|simp,by first|omega|(dsimp only;omega)|(dsimp only;push_cast;omega)|(push_cast;omega)|simp⟩) rfl rfl
set_option maxHeartbeats 8000000 in
theorem agq (br:Nat) (code:List UInt8) (bB:code.length<=1099511627776) (p:Int) (n:Nat) (h0:0<=p) (h1:p<=n) (hn:n<=10000) (rm:Int) (hm:rm<=30):
 c7 Tryz.prog 40 [AV.val (.pointer (some ⟨br,0,none⟩)),AV.int rm] [Own.box br 95 [bE code,AV.int (p)]] (λr:Nat×dR×Int=>cO (n+26000) r.2.1/\0<=r.2.2/\r.2.2<=((n+26000:Nat):Int)) (λr=>[Own.box r.1 75 [AV.val (.pointer (some ⟨br,0,none⟩)),AV.int r.2.1.w.time,bR r.2.1.w.ax,bq r.2.1.w.ar,bK r.2.1.w.calls,bQ r.2.1.w.seen,AV.val r.2.1.lv],Own.row r.2.1.lv 52 11 (r.2.1.list.map Ev.cells),Own.box br 95 [bE code,AV.int (r.2.2)]]) (λr=>AV.val (.pointer (some ⟨r.1,0,none⟩))):=by
 refine c7.intro 28 Tryz.func40 rfl Tryz.ntmps40 rfl (by kernel_rfl) (λW I a U=>?_)
 refine aF λI a w U=>?_
 refine U.o (.cl (PA ..)) λU=>?_
 refine U.o (.bd Vg (.k (.t bf.nil))) λU=>?_
 refine U.box rfl .tt λma I a w U=>?_
 refine ai λI a w U=>?_
 have U:=U.gC (sz:=11) 52
 change St _ _ [Own.box br 95 [bE code,AV.int (p)],Own.box ma 75 [AV.val (.pointer (some ⟨br,0,none⟩)),AV.int (⟨cX,[],.slice none 0 0⟩:dR).w.time,bR (⟨cX,[],.slice none 0 0⟩:dR).w.ax,bq (⟨cX,[],.slice none 0 0⟩:dR).w.ar,bK (⟨cX,[],.slice none 0 0⟩:dR).w.calls,bQ (⟨cX,[],.slice none 0 0⟩:dR).w.seen,AV.val (⟨cX,[],.slice none 0 0⟩:dR).lv],Own.row (⟨cX,[],.slice none 0 0⟩:dR).lv 52 11 ((⟨cX,[],.slice none 0 0⟩:dR).list.map Ev.cells)] _ _ _ at U
 refine U.o (.li (([0,0,3,6,12]:List Int).map B2) uP (.v (.v (.v (.v (.v .nil)))))) λU=>?_
 refine U.m λU=>?_
 refine U.eT [0] (fW br code p 5 (by omega) bB) (aw .tt (aw .c aL)) rfl (by decide) rfl λI a w U=>?_
 change St _ _ [Own.box br 95 [bE code,AV.int (p+1)],Own.box ma 75 [AV.val (.pointer (some ⟨br,0,none⟩)),AV.int (⟨cX,[],.slice none 0 0⟩:dR).w.time,bR (⟨cX,[],.slice none 0 0⟩:dR).w.ax,bq (⟨cX,[],.slice none 0 0⟩:dR).w.ar,bK (⟨cX,[],.slice none 0 0⟩:dR).w.calls,bQ (⟨cX,[],.slice none 0 0⟩:dR).w.seen,AV.val (⟨cX,[],.slice none 0 0⟩:dR).lv],Own.row (⟨cX,[],.slice none 0 0⟩:dR).lv 52 11 ((⟨cX,[],.slice none 0 0⟩:dR).list.map Ev.cells)] _ _ _ at U
 refine U.o ((by first|exact dS ju gO .tt .tt (λ_=>by have h9:=wQ code p (n:=5) (by omega);(try simp);omega)|exact fS ju gO .tt .tt (λ_=>by have h9:=wQ code p (n:=5) (by omega);(try simp);omega)|exact fZ ju gO .tt .tt (λ_=>by have h9:=wQ code p (n:=5) (by omega);(try simp);omega))) λU=>?_
 refine bt λI a w U=>?_
 refine U.eT [0] (fW br code (p+1) rm (by omega) bB) (aw .tt (aw .tt aL)) rfl (by decide) rfl λI a w U=>?_
 change St _ _ [Own.box br 95 [bE code,AV.int (p+1+1)],Own.box ma 75 [AV.val (.pointer (some ⟨br,0,none⟩)),AV.int (⟨cX,[],.slice none 0 0⟩:dR).w.time,bR (⟨cX,[],.slice none 0 0⟩:dR).w.ax,bq (⟨cX,[],.slice none 0 0⟩:dR).w.ar,bK (⟨cX,[],.slice none 0 0⟩:dR).w.calls,bQ (⟨cX,[],.slice none 0 0⟩:dR).w.seen,AV.val (⟨cX,[],.slice none 0 0⟩:dR).lv],Own.row (⟨cX,[],.slice none 0 0⟩:dR).lv 52 11 ((⟨cX,[],.slice none 0 0⟩:dR).list.map Ev.cells)] _ _ _ at U
 have agr:=iY code (p+1) rm
 have ags:=XD (bs:=code) (p:=p+1) hm (by omega)
 generalize dA code (p+1) rm=x19 at U agr ags
 refine ai λI a w U=>?_
 refine St.lo (σ:=Int×dR×Int) (7::(run 7 20 [])) ⟨λ⟨y,s1,p1⟩=>[(7,AV.int y)],λ⟨y,s1,p1⟩=>[Own.box br 95 [bE code,AV.int (p1)],Own.box ma 75 [AV.val (.pointer (some ⟨br,0,none⟩)),AV.int s1.w.time,bR s1.w.ax,bq s1.w.ar,bK s1.w.calls,bQ s1.w.seen,AV.val s1.lv],Own.row s1.lv 52 11 (s1.list.map Ev.cells)],λ⟨y,s1,p1⟩=>cO (n+10+850*(30-y).toNat) s1/\0<=p1/\p1<=((n+10+850*(30-y).toNat:Nat):Int)/\0<=y/\y<=30⟩ (λ⟨y,s1,p1⟩=>y.toNat) (x19,(⟨cX,[],.slice none 0 0⟩:dR),p+1+1) U ?aJ ?aK
 case aJ=>exact⟨cO.start _ _,by first|omega|(dsimp only;omega)|(dsimp only;push_cast;omega)|(push_cast;omega)|simp,by first|omega|(dsimp only;omega)|(dsimp only;push_cast;omega)|(push_cast;omega)|simp,by first|omega|(dsimp only;omega)|(dsimp only;push_cast;omega)|(push_cast;omega)|simp,by first|omega|(dsimp only;omega)|(dsimp only;push_cast;omega)|(push_cast;omega)|simp⟩
 case aK=>
  rintro⟨y,s1,p1⟩ I a w aj U
  obtain⟨jJ,Ed,Ee,hy0,hy1⟩:=aj
  dsimp only at U
  refine aA λI a w U=>?_
  refine cz (λae=>?_) λae=>?_
  ·refine aF λI a w U=>?_
   refine U.cG [1,2,0] (aff ma br code bB s1 p1 (n+10+850*(30-y).toNat) jJ Ed Ee (by omega) _) (aw .tt (aw .tt aL)) rfl (by decide) rfl λr26 I a w JQ U=>?_
   obtain⟨sY,Ew⟩:=r26
   change St _ _ [Own.box br 95 [bE code,AV.int (Ew)],Own.box ma 75 [AV.val (.pointer (some ⟨br,0,none⟩)),AV.int sY.w.time,bR sY.w.ax,bq sY.w.ar,bK sY.w.calls,bQ sY.w.seen,AV.val sY.lv],Own.row sY.lv 52 11 (sY.list.map Ev.cells)] _ _ _ at U
   replace JQ:cO ((n+10+850*(30-y).toNat)+850) sY/\0<=Ew/\Ew<=(((n+10+850*(30-y).toNat)+850:Nat):Int):=JQ
   obtain⟨k26,l26,u26⟩:=JQ
   refine aI λI a w U=>?_
   exact U.ag (y-1,sY,Ew) (⟨k26.mono (by omega),by first|omega|(dsimp only;omega)|(dsimp only;push_cast;omega)|(push_cast;omega)|simp,by first|omega|(dsimp only;omega)|(dsimp only;push_cast;omega)|(push_cast;omega)|simp,by first|omega|(dsimp only;omega)|(dsimp only;push_cast;omega)|(push_cast;omega)|simp,by first|omega|(dsimp only;omega)|(dsimp only;push_cast;omega)|(push_cast;omega)|simp⟩)
  ·refine zt ?_
   refine aA λI a w U=>?_
   refine U.de (ma,s1,p1) [1,2,0] rfl (.cons (.t rfl) .nil) (by(try dsimp only);exact⟨jJ.mono (by omega),by first|omega|(dsimp only;omega)|(dsimp only;push_cast;omega)|(push_cast;omega)|simp,by first|omega|(dsimp only;omega)|(dsimp only;push_cast;omega)|(push_cast;omega)|simp⟩) rfl rfl
theorem agw (x:aE) (e:Ev) (si:∀q∈x.calls,q.az.length<=1048576):
 Fn Tryz.prog 42 [x.av,e.av] (AV.dx [(fQ x e).1.av,AV.bool (fQ x e).2]):=by
 refine Fn.go 29 Tryz.func42 Tryz.ntmps42 (λW I a U=>?_)
 refine aF λI a w U=>?_
 refine U.alloc rfl df dz λb4 I a w U=>?_
 refine aF λI a w U=>?_
 refine U.o (.c1 (adG x si)) λU=>?_
 refine ai λI a w U=>?_
 refine U.cd (λae=>?_) λae=>?_
 ·replace ae:=nt ae
  refine zt ?_
  refine U.o (.bd dz bf.nil) λU=>?_
  refine aA λI a w U=>?_
  refine U.ret rfl (.cons (.sx 0) (.cons (.t rfl) aX.nil)) ?_
  exact(by unfold fQ;rw[ae];rfl)
 ·replace ae:=nf ae;have hg:=ko.1 ae
  refine aI λI a w U=>?_
  refine cz (λah=>?_) λah=>?_
  ·refine bH λI a w U=>?_
   refine U.o (.c1 (I5 x hg.1.small)) λU=>?_
   refine aA λI a w U=>?_
   refine U.ret rfl (.cons (.sx 0) (.cons (.t rfl) aX.nil)) ?_
   exact(by unfold fQ fP;rw[ae,if_pos rfl,if_neg (by omega)];rfl)
  ·refine aF λI a w U=>?_
   refine U.o (bY (RE x e hg.1 (by omega)) (aw (.t rfl) (aw (.t rfl) aL))) λU=>?_
   refine bk λI a w U=>?_
   refine U.alloc rfl df dz λb6 I a w U=>?_
   refine U.sb 1 λU=>?_
   obtain⟨I,U⟩:=U.fb 1 6
   refine aI λI a w U=>?_
   refine U.cd (λal=>?_) λal=>?_
   ·replace al:=nt al
    refine bH λI a w U=>?_
    refine U.o (.c1 (I5 x hg.1.small)) λU=>?_
    refine aA λI a w U=>?_
    refine U.ret rfl (.cons (.sx 0) (.cons (.t rfl) aX.nil)) ?_
    exact(by unfold fQ fP;rw[ae,if_pos rfl,if_neg (by rw[al];simp)];rfl)
   ·replace al:=nf al
    refine bH λI a w U=>?_
    refine U.o (bY (I5 (ez x e).1 (adt ae (by omega) al).small) (aw (.t rfl) aL)) λU=>?_
    refine aA λI a w U=>?_
    refine U.ret rfl (.cons (.sx 0) (.cons (.t rfl) aX.nil)) ?_
    exact(by unfold fQ fP;rw[ae,if_pos rfl,if_pos ⟨by omega,al⟩];rfl)
theorem nT (l:List Ev):
 Fn Tryz.prog 20 [Fm l] ((ba l).av):=by
 refine Fn.go 26 Tryz.func20 Tryz.ntmps20 (λW I a U=>?_)
 have hle:=U.cW (t:=0) rfl
 refine sr<|U.alloc rfl df dz λb2 I a w U=>?_
 refine zt ?_
 refine U.o (.cl (PA ..)) λU=>?_
 refine U.alloc rfl df dz λb3 I a w U=>?_
 refine aU λI a w U=>?_
 refine cz (λae=>?_) λae=>?_
 ·refine aA λI a w U=>?_
  refine U.ret rfl (.cons (.sx 0) aX.nil) ?_
  exact(by unfold ba;rw[if_pos (by omega)];rfl)
 ·refine ai λI a w U=>?_
  refine St.lo (σ:=Nat) (4::(run 15 10 [])) ⟨λk=>[(4,AV.int k)],λk=>[Own.box b2 30 [AV.val (.int .i64 0),AV.rows 7 [],AV.rows 15 [],AV.rows 13 [],AV.rows 1 []],Own.box b3 30 (wK l k).cells],λk=>k<=l.length⟩ (λk=>l.length-k) 0 U ?aJ ?aK
  case aJ=>exact Nat.zero_le _
  case aK=>
   rintro k I a w aj U
   have hk:k<=l.length:=aj
   have hg:=ko.1 (I4 l k)
   dsimp only at U
   refine aU λI a w U=>?_
   refine cz (λah=>?_) λah=>?_
   ·refine zt ?_
    refine U.eo [([1],none),([],none),([],none),([],none),([],none),([],none),([],none),([],none),([],none),([1],some (1,[]))] (by kernel_rfl) (by kernel_rfl) rfl ?_
    refine .r [1] (.ls 1) ?_
    refine dq ?_
    refine .o (.c2 (agw (wK l k) (ab l k) hg.1.az)) ?_
    refine cD ?_
    refine aS.iW (x:=AV.any) 1 (λF W0 I0 I a w Q U kk=>U.sb 1 λU=>kk _ _ _ U) ?_
    refine .nil ?_
    intro I a w U
    refine aI λI a w U=>?_
    rw[abT ah] at U
    exact U.ag (k+1) (ah)
   ·refine zt ?_
    refine aA λI a w U=>?_
    refine U.ret rfl (.cons (.sx 0) aX.nil) ?_
    exact(by rw[QJ (by omega) (by omega)];rfl)
theorem nU (code:List UInt8) (bB:code.length<=1099511627776):
 Cd Tryz.prog 19 [bE code] (λl:List Ev=>l.length<=30000) Fm:=by
 refine Cd.intro 18 Tryz.func19 rfl Tryz.ntmps19 rfl (by kernel_rfl) (λW I a U=>?_)
 refine aF λI a w U=>?_
 refine U.cG [] (Yh code bB) (aw .r aL) rfl (by decide) rfl λr5 I a w JR U=>?_
 obtain⟨br,cd⟩:=r5
 replace JR:cd.length<=1099511627776:=JR
 change St _ _ [Own.box br 95 [bE cd,AV.int (0)]] _ _ _ at U
 have jO:=JR
 refine aF λI a w U=>?_
 refine U.eT [0] (fW br cd (0) (60) (by omega) jO) (aw .tt (aw .c aL)) rfl (by decide) rfl λI a w U=>?_
 generalize dA cd 0 60=x7 at U
 refine ai λI a w U=>?_
 refine cz (λae=>?_) λae=>?_
 ·refine bH λI a w U=>?_
  refine U.eT [0] (fW br cd (0+1) (2) (by omega) jO) (aw .tt (aw .c aL)) rfl (by decide) rfl λI a w U=>?_
  have hx:=wQ cd (0+1) (n:=2) (by omega)
  generalize dA cd (0+1) 2=x10 at U hx
  obtain⟨By,rfl⟩:=Int.eq_ofNat_of_zero_le hx.1
  refine U.o .FT λU=>?_
  rw[show(2000+(By:Int))=((2000+By:Nat):Int) from by omega] at U
  refine U.make rfl jL iH kW rfl .tt .tt (by omega) λtZ a w U=>?_
  obtain⟨I,U⟩:=U.fr 1 12
  rw[show List.replicate (2000+By) _=(List.replicate (2000+By) MN).map Ev.cells from(by rw[List.map_replicate];rfl)] at U
  refine ai λI a w U=>?_
  refine U.de (List.replicate (2000+By) MN) [] rfl (.cons (.t rfl) .nil) (by simp;omega) rfl rfl
 ·refine bH λI a w U=>?_
  refine U.cG [0] (agq br cd jO (0+1) 1 (by omega) (by omega) (by omega) 26 (by omega)) (aw .tt (aw .c aL)) rfl (by decide) rfl λr14 I a w sq U=>?_
  obtain⟨bs,s1,p1⟩:=r14
  replace sq:cO (1+26000) s1/\0<=p1/\p1<=((1+26000:Nat):Int):=sq
  obtain⟨jJ,qm,DV⟩:=sq
  obtain⟨w1,l1,v1⟩:=s1
  change St _ _ [Own.box bs 75 [AV.val (.pointer (some ⟨br,0,none⟩)),AV.int w1.time,bR w1.ax,bq w1.ar,bK w1.calls,bQ w1.seen,AV.val v1],Own.row v1 52 11 (l1.map Ev.cells),Own.box br 95 [bE cd,AV.int (p1)]] _ _ _ at U
  have hlen:=jJ.len
  replace hlen:l1.length<=1+26000:=hlen
  refine aU λI a w U=>?_
  obtain⟨I,U⟩:=U.fr 1 2
  refine U.de l1 [] rfl (.cons (.t rfl) .nil) (by omega) rfl rfl
end Go.Proofs.YtjepcfpkclegdaaGreat
