/- Part 18: contracts of functions, plain facts. -/
import Derived.Test.YtjepcfpkclegdaaGreatP14
import Derived.Test.YtjepcfpkclegdaaGreatP15
import Derived.Test.YtjepcfpkclegdaaGreatP16
import Derived.Test.YtjepcfpkclegdaaGreatP17
set_option linter.unusedVariables false
set_option linter.unusedSimpArgs false
set_option maxRecDepth 100000
set_option maxHeartbeats 4000000
namespace Go.Proofs.YtjepcfpkclegdaaGreat
open Go Go.RowKit
attribute [local irreducible] wpList Code.wp Ok
def ez (w0:aE) (e:Ev):aE×Bool:=
 let w:={w0 with time:=w0.time+1}
 if e.kind=1\/e.kind=2\/e.kind=3 then jd w e
 else if e.kind=4\/e.kind=5 then je w e
 else if aQ e.kind 6 9&&cL e.at_ then fI w e
 else(w,false)
def fP (w:aE) (e:Ev):aE×Bool:=if w.time<99999/\(ez w e).2=true then((ez w e).1,true) else(w,false)
def fQ (w:aE) (e:Ev):aE×Bool:=if ey w then fP w e else(Xo,false)
def ba (l:List Ev):aE:=if 2000<l.length then cX else l.foldl (λw e=>(fQ w e).1) cX
theorem abp (q:Call) (t:Int) (hq:eX q t=true) (ht:q.bD+q.end_<=4611686018427387904) (hl:-4611686018427387904<=q.end_) (si:q.az.length<=1048576):
 Fn Tryz.prog 209 [q.av] (bm (dP q)):=by
 refine Fn.go 68 Tryz.func209 Tryz.ntmps209 (λW I a U=>?_)
 have lens:q.keys.length<=9223372036854775807/\q.az.length<=9223372036854775807/\q.aP.length<=9223372036854775807:=⟨U.ln 0 3,U.ln 0 11,U.ln 0 12⟩
 have hp:=vr hq
 have jO:=(pg (acc:=[]) rfl hp.2.1).1
 have en:=Dt hq
 have hc6:=gR hp.1
 have hjo:bN (iK q.ctx (eW q))=true:=wT hp.1 λd hd=>pe jO hd
 have eM:=aap hp.1 hp.2.1
 refine lE λI a w U=>?_
 refine U.o (.c2 (DE _ _ ht si)) λU=>?_
 refine ai λI a w U=>?_
 refine U.cd (λae=>?_) λae=>?_
 ·exfalso;rw[en] at ae;cases ae
  skip
 ·refine zt ?_
  refine U.l0 λsg I a w U=>?_
  refine aF λI a w U=>?_
  refine U.ap 0 λv17 a w U=>?_
  obtain⟨I,U⟩:=U.fr 0 17
  have U:=U.drop 0
  refine aU λI a w U=>?_
  refine cz (λah=>?_) λah=>?_
  ·refine aA λI a w U=>?_
   refine U.rt ?_
   exact congrArg bm (by unfold dP;rw[if_pos ah])
  ·refine aI λI a w U=>?_
   refine cz (λal=>?_) λal=>?_
   ·refine wp_seq<|U.dk ?_
    refine cD ?_
    refine .o ((by first|exact dS ju gO .tt .c (λ_=>by have:=w4 hp.2.2.1 al;omega)|exact fS ju gO .tt .c (λ_=>by have:=w4 hp.2.2.1 al;omega)|exact fZ ju gO .tt .c (λ_=>by have:=w4 hp.2.2.1 al;omega))) ?_
    refine cD ?_
    refine .o (.bd fL (.k (.t bf.nil))) ?_
    refine .o (.cl (Hu _ ⟨ab q.keys 0,q.aq⟩ hp.1 (PU hq al ah))) ?_
    refine bn ?_
    refine .nil ?_
    intro I a w U
    refine zt ?_
    refine U.rt ?_
    exact congrArg bm (by unfold dP;rw[if_neg ah,if_pos al])
   ·refine aF λI a w U=>?_
    refine U.o (.c1 (aar _ hp.2.1)) λU=>?_
    refine U.o (.cl (If _ _ hp.1 jO)) λU=>?_
    refine aA λI a w U=>?_
    refine St.lo (σ:=Nat) (run 2 3 (run 29 38 [])) ⟨λk=>[(4,AV.int k),(3,bm ((q.az.take k).foldl se (iK q.ctx (eW q))))],λk=>[],λk=>k<=q.az.length⟩ (λk=>q.az.length-k) 0 U ?aJ ?aK
    case aJ=>exact Nat.zero_le _
    case aK=>
     rintro k I a w aj U
     have hk:k<=q.az.length:=aj
     refine ck λI a w U=>?_
     refine cz (λaH=>?_) λaH=>?_
     ·refine jj λI a w U=>?_
      refine cz (λaM=>?_) λaM=>?_
      ·refine U.dk ?_
       refine qn ?_
       refine .o (.bd fL (.k (.t bf.nil))) ?_
       refine .o (bY (Hu _ ⟨(ab q.az k).key,(ab q.az k).be.aq⟩ (DH hjo (wG hp.2.1 k)).1 (by have:=yL (hp.2.1 _ (aV aH)) aM;rw[<-this.2];exact this.1)) (aw .r (aw (.t rfl) aL))) ?_
       refine bn ?_
       refine .nil ?_
       intro I a w U
       refine aI λI a w U=>?_
       refine U.again (k+1) ?iM ?iN (by rfl) ?iO (by repeat(first|exact Env.le_rfl|refine Env.jf rfl ?_))
       case iM=>omega
       case iN=>exact aH
       case iO=>exact(Env.dK rfl (by rfl) (Env.dK rfl (by exact congrArg bm (by rw[wD aH];unfold se;rw[aM];rfl)) Env.le_nil))
      ·refine aI λI a w U=>?_
       refine U.again (k+1) ?nO ?nP (by rfl) ?nQ (by repeat(first|exact Env.le_rfl|refine Env.jf rfl ?_))
       case nO=>omega
       case nP=>exact aH
       case nQ=>exact(Env.dK rfl (by rfl) (Env.dK rfl (by exact congrArg bm (by rw[wD aH];unfold se;rw[aM];rfl)) Env.le_nil))
     ·refine zt ?_
      refine aA λI a w U=>?_
      refine U.rt ?_
      exact congrArg bm (by rw[List.take_of_length_le (by omega),<-eM];unfold GS;rw[if_neg ah,if_neg al])
theorem abr {s:Server} {m:aC} (h:bF s) (hu:s.up=true):bF (nN s m):=by
 unfold nN
 split
 ·rename_i hc
  simp only[Bool.and_eq_true,decide_eq_true_eq] at hc
  obtain⟨v,hv,hd⟩:=Qf.1 hc.1.2
  exact(h.Qe (Dz (jk (gu h.waits v hv)).2.2 _ hd) hc.2 hu).settle
 ·exact h
theorem Iw {s:Server} {m:aC} (h:bF s) (hm:bO m=true):∀w∈(eG s m).2,bO w=true:=by
 unfold eG
 repeat' split
 ·exact aau h hm
 ·exact aav h hm
 ·exact aaw h hm
 ·intro w hw;simp at hw
 ·exact Yv h hm
 ·intro w hw;simp at hw
 ·exact aa6 h hm
 ·intro w hw;simp at hw
 ·intro w hw;simp at hw
theorem QD {s:Server} {m:aC} (h:bF s):∀w∈(fJ s m).2,bO w=true:=by
 unfold fJ
 split
 ·rename_i hc
  simp only[Bool.and_eq_true] at hc
  exact Iw h hc.1.2
 ·intro w hw;simp at hw
theorem Bd (w:aE) (e:Ev):(ez w e).1.time=w.time+1:=by
 unfold ez jd kQ je mb fI
 dsimp only
 repeat' split
 all_goals rfl
theorem abt (s:Server) (aj:gK s=true):
 Fn Tryz.prog 178 [s.av] ((o5 s).av):=by
 refine Fn.go 12 Tryz.func178 Tryz.ntmps178 (λW I a U=>?_)
 have hp:=AW aj
 refine bH λI a w U=>?_
 refine U.alloc rfl cm dF λb2 I a w U=>?_
 refine bH λI a w U=>?_
 refine U.o (.c1 (vw ..)) λU=>?_
 refine ai λI a w U=>?_
 refine U.cd (λae=>?_) λae=>?_
 ·exfalso;rw[aj] at ae;cases ae
  skip
 ·refine bH λI a w U=>?_
  refine U.o (bY (AR s (by have:=vn hp.2.1;have:=vn hp.2.2.1;exact(HA aj).small (by have:=jz hp.2.2.2.1;omega))) (aw (.t rfl) aL)) λU=>?_
  refine U.alloc rfl cm dF λb3 I a w U=>?_
  refine ck λI a w U=>?_
  refine U.ret rfl (.cons (.sx 0) aX.nil) ?_
  rfl
set_option maxHeartbeats 8000000 in
theorem y6 (s:Server) (aj:eK s) (ho:s.aD.length<=80):
 Fn Tryz.prog 251 [s.av] ((fO s).av):=by
 refine Fn.go 40 Tryz.func251 Tryz.ntmps251 (λW I a U=>?_)
 have fY:=aj
 have jE:=aj.small (by omega)
 refine bH λI a w U=>?_
 refine U.alloc rfl cm dF λb2 I a w U=>?_
 refine bH λI a w U=>?_
 refine U.cG [] (A3 s jE) (aw .tt aL) rfl (by decide) rfl λ⟨vS,vV,vW,vO,vK⟩ I a w aku U=>?_
 refine U.alloc rfl cm dF λb3 I a w U=>?_
 refine U.sb 6 λU=>?_
 refine wpList_nil ?_
 obtain⟨I,U⟩:=U.fu 1 2 6
 obtain⟨I,U⟩:=U.fu 2 3 6
 obtain⟨I,U⟩:=U.fu 4 5 6
 refine aY ?_
 refine St.cut (σ:=Server×Value) (4::(run 26 7 [])) ⟨λ⟨x,u⟩=>[],λ⟨x,u⟩=>[Own.box b2 61 [AV.val (.int .i64 0),AV.val (.bool false),AV.rows 2 [],AV.rows 7 [],AV.rows 7 [],AV.rows 3 [],AV.rows 3 []],Own.gone,Own.gone,Own.row u 43 7 (x.waits.map aB.cells),Own.gone,Own.row vK 63 3 (x.bl.map au.cells),Own.box b3 61 [AV.int x.site,AV.bool x.up,uJ x.aG,bX x.ao,AV.val u,bm x.aD,AV.val vK]],λ⟨x,u⟩=>eK x/\ja x=ja s/\x.aD=s.aD/\eL x<0⟩ U ?Be ?Bf
 case Be=>
  refine wp_block ?_
  refine St.lo (σ:=Server×Value) (4::(run 26 7 [])) ⟨λ⟨x,u⟩=>[],λ⟨x,u⟩=>[Own.box b2 61 [AV.val (.int .i64 0),AV.val (.bool false),AV.rows 2 [],AV.rows 7 [],AV.rows 7 [],AV.rows 3 [],AV.rows 3 []],Own.gone,Own.gone,Own.row u 43 7 (x.waits.map aB.cells),Own.gone,Own.row vK 63 3 (x.bl.map au.cells),Own.box b3 61 [AV.int x.site,AV.bool x.up,uJ x.aG,bX x.ao,AV.val u,bm x.aD,AV.val vK]],λ⟨x,u⟩=>eK x/\ja x=ja s/\x.aD=s.aD⟩ (λ⟨x,u⟩=>x.waits.length) (s,vW) U ?aJ ?aK
  case aJ=>exact⟨aj,rfl,rfl⟩
  case aK=>
   rintro⟨x,u⟩ I a w aj U
   obtain⟨hx,nq,vz⟩:=aj
   dsimp only at U
   have pY:=pW hx.ao
   have hwd:=pW hx.waits
   have pw:=fV hx.ao
   have lR:=fV hx.waits
   refine aU λI a w U=>?_
   refine cz (λae=>?_) λae=>?_
   ·refine aF λI a w U=>?_
    refine U.o (mN (aw .tt aL)) λU=>?_
    refine U.o (Ci (xs:=[AV.val u,AV.fn 266 [AV.val (.pointer (some ⟨b3,0,none⟩))]]) (rM:=[bX x.waits,AV.fn 266 [AV.ptr x.cells]]) (Gr x.waits (ll x) _ (λv hv=>Fn.val (abe x v hx.aG (qA (gu hx.waits v hv))))) (aw .tt (aw .tt aL)) (λc I a w U=>by obtain⟨I,U,hf⟩:=U.uC 3 rfl;have U:=U.np (q:=4) 6 rfl rfl hf;have U:=U.xO (t:=0) rfl hf;obtain⟨I,U⟩:=U.fu 5 6 6;obtain⟨I,U⟩:=U.fc 6 1 0;exact⟨_,_,_,U,rfl,rfl,trivial⟩)) λU=>?_
    refine ai λI a w U=>?_
    have hid:eL x=cM (ll x) x.waits:=X4 (by omega)
    refine aA λI a w U=>?_
    refine cz (λah=>?_) λah=>?_
    ·refine zt ?_
     exact U.me (x,u) (by first|exact⟨hx,nq,vz,N4 (by omega)⟩|exact⟨hx,nq,vz,by omega⟩)
    ·have qm:0<=eL x:=by omega
     obtain⟨xR,pR,lz⟩:=yw qm
     have QE:=hx.xu qm
     have eM:=O0 qm
     obtain⟨n,hn⟩:∃n:Nat,(eL x).toNat=n:=⟨_,rfl⟩
     rw[hn] at xR QE eM lz
     rw[show cM (ll x) x.waits=(n:Int) by omega] at U
     refine zt ?_
     obtain⟨bu,cu,rfl⟩:=U.j7 3 rfl (by rw[List.length_map];omega)
     refine U.dt 9 ?_
     simp only[TD]
     refine fi ?_
     refine .o (jr cJ bA .tt .tt (λ_=>by rw[List.length_map];omega)) ?_
     refine .o (rA 3 bA .tt rfl (λ_=>by exact fG xR) rfl) ?_
     refine .o (bY (Dw x.ao (ab x.waits n) (by omega) (λy hy=>by have:=pY y hy;omega) (by have:=hwd _ (aV xR);omega)) (aw .r (aw (.t rfl) aL))) ?_
     refine bn ?_
     refine .nil ?_
     intro I a w U
     refine U.s1 6 λU=>?_
     refine bM λI a w U=>?_
     refine U.cG [3] (Zw _ (x.waits.map aB.cells) n (by rw[List.length_map];exact xR) (by rw[List.length_map];omega) (λr hr=>by obtain⟨y,_,rfl⟩:=List.mem_map.1 hr;rfl)) (aw .r (aw .tt (aw .tt aL))) rfl (by decide) rfl λu2 I a w akv U=>?_
     rw[<-List.map_take,<-List.map_drop,<-List.map_append] at U
     refine U.o .fv λU=>?_
     try have akw:=U.eJ 3 rfl
     refine U.s1 6 λU=>?_
     refine zt ?_
     exact U.ag (nD x n,u2) (⟨QE,eM.symm.trans nq,vz⟩) (hμ:=by show(nD x n).waits.length<x.waits.length;rw[Gx xR];omega)
   ·refine zt ?_
    exact U.me (x,u) (by first|exact⟨hx,nq,vz,N4 (by omega)⟩|exact⟨hx,nq,vz,by omega⟩)
 case Bf=>
  rintro⟨x,u⟩ I a w aj U
  obtain⟨hx,nq,vz,DN⟩:=aj
  dsimp only at U
  have eM:=Zi nq DN
  have abv:rW {x with bl:=x.bl.filter λd=>!(!jy x d)}:=by rw[<-eM];exact(fY.settle).small (by rw[(AT s).2.2.2];omega)
  refine wp_seq ?_
  obtain⟨I,U⟩:=U.fu 3 4 6
  refine aF λI a w U=>?_
  refine U.o (mN (aw .tt aL)) λU=>?_
  refine U.cG [5,6] (HH vK x.bl (λd=>!jy x d) _ (Own.box b3 61 [AV.int x.site,AV.bool x.up,uJ x.aG,bX x.ao,bX x.waits,bm x.aD,AV.val vK]) (by have:=hx.bl;omega) (λd hd=>jK.val (aaC b3 x (AV.val vK) d))) (aw .r (aw .tt aL)) rfl (by decide) rfl λQF I a w DT U=>?_
  refine U.o .fv λU=>?_
  try have akx:=U.eJ 5 rfl
  refine U.s1 6 λU=>?_
  refine nn<|wp_seq ?_
  obtain⟨I,U⟩:=U.fu 5 6 6
  refine bH λI a w U=>?_
  refine U.o (.c1 (ua {x with bl:=x.bl.filter λd=>!(!jy x d)} abv)) λU=>?_
  refine ai λI a w U=>?_
  refine U.ret rfl (.cons (.sx 0) aX.nil) ?_
  exact(by rw[eM];rfl)
theorem abw (s:Server) (slot:Int) (hg:bF s):
 Fn Tryz.prog 133 [s.av,AV.int slot] (AV.dx [(eI s slot).1.av,(eI s slot).2.1.av,AV.bool (eI s slot).2.2]):=by
 refine Fn.go 59 Tryz.func133 Tryz.ntmps133 (λW I a U=>?_)
 have aj:=jY.2 hg
 have cT:=hg.ok
 have jE:=hg.small
 have h3:=hg.aG
 have DU:aQ slot 0 2=true->(ab s.aG slot.toNat).bz<=9999:=λhi=>by have h9:=hg.aW _ (aV (l:=s.aG) (k:=slot.toNat) (by simp[aQ] at hi;omega));exact(wO.1 h9).2.1
 have e9:∀x,x=dG.cells ⟨(ab s.aG slot.toNat).bz+1,2⟩->(List.map dG.cells s.aG).set slot.toNat x=List.map dG.cells (ka s slot).aG:=λx h=>by rw[h];exact List.map_set.symm
 refine bH λI a w U=>?_
 refine U.alloc rfl cm dF λb4 I a w U=>U.alloc rfl dr eb λb5 I a w U=>?_
 refine aF λI a w U=>?_
 refine U.o (.c1 (xq ..)) λU=>?_
 refine ai λI a w U=>?_
 refine U.cd (λae=>?_) λae=>?_
 ·exfalso;rw[aj] at ae;cases ae
  skip
 ·refine bH λI a w U=>?_
  refine U.cG [] (A3 s jE) (aw .tt aL) rfl (by decide) rfl λ⟨vS,vV,vW,vO,vK⟩ I a w sq U=>?_
  unfold Server.NU at U
  have U:=U.nf
  refine U.alloc rfl cm dF λb7 I a w U=>?_
  refine U.sb 7 λU=>?_
  refine wpList_nil ?_
  obtain⟨I,U⟩:=U.fu 3 3 7
  obtain⟨I,U⟩:=U.fu 4 4 7
  obtain⟨I,U⟩:=U.fu 5 5 7
  obtain⟨I,U⟩:=U.fu 6 6 7
  have U:=U.nf
  refine bM λI a w U=>?_
  refine U.q .F (.cl (jv ..)) λU=>?_
  refine dD λI a w U=>?_
  refine U.q .F ((by first|exact dS fU er .ag .ag (λhg=>by simp[aQ] at hg;omega)|exact fS fU er .ag .ag (λhg=>by simp[aQ] at hg;omega)|exact fZ fU er .ag .ag (λhg=>by simp[aQ] at hg;omega))) λU=>?_
  refine lE λI a w U=>?_
  refine U.q .F ((by first|exact dS fU er .ag .ag (λhg=>by simp[aQ] at hg;omega)|exact fS fU er .ag .ag (λhg=>by simp[aQ] at hg;omega)|exact fZ fU er .ag .ag (λhg=>by simp[aQ] at hg;omega))) λU=>?_
  refine aU λI a w U=>?_
  refine U.cd (λah=>?_) λah=>?_
  ·rw[N8 DU] at ah;replace ah:=nt ah
   obtain⟨I,U⟩:=U.fu 2 2 7
   refine sr<|U.o (.ls 7) λU=>?_
   refine U.o (.bd eb bf.nil) λU=>?_
   refine aI λI a w U=>?_
   refine U.ret rfl (.cons (.sx 0) (.cons (.sx 1) (.cons (.t rfl) aX.nil))) ?_
   exact(by unfold eI;rw[ah];rfl)
  ·rw[N8 DU] at ah;replace ah:=nf ah;have hmp:=w7 ah;have hsr:=wO.1 (DA hg (i:=slot.toNat) (by omega));have xx:=yY hg ah
   refine zt ?_
   obtain⟨bS,cS,rfl⟩:=U.j7 2 rfl (by rw[List.length_map];omega)
   refine U.dt 12 ?_
   simp only[TD]
   refine bn ?_
   refine .o (.lb 7) ?_
   refine nx ?_
   refine .o (.bd oe (.k (.k bf.nil))) ?_
   refine .o (jr fU er .tt .tt (λ_=>by simp only[List.length_map];omega)) ?_
   refine .nil ?_
   intro I a w U
   refine U.lX 2 er .tt .tt rfl (by exact fG (by omega)) rfl rfl λa w U=>?_
   refine zt ?_
   rw[e9] at U
   rotate_left
   ·rfl
   obtain⟨I,U⟩:=U.fu 2 2 7
   have U:=U.nf
   refine U.dt 4 ?_
   simp only[TD]
   refine .o (.ls 7)<|.o (.ls 7) ?_
   refine bn ?_
   refine .o (bY (Qi (ka s slot) slot xx.small xx.site xx.aG (by omega)) (aw (.t rfl) (aw (.t rfl) aL))) ?_
   refine .nil ?_
   intro I a w U
   refine aI λI a w U=>?_
   refine U.ret rfl (.cons (.sx 0) (.cons (.sx 1) (.cons (.t rfl) aX.nil))) ?_
   exact(by unfold eI;rw[ah];rfl)
theorem abz (s:Server) (m:aC) (hg:bF s) (hm:bO m=true) (ho:(cL m.aR&&(bL m.aR !=bL s.site))=true):
 Fn Tryz.prog 245 [s.av,m.av] (AV.dx [(jb s m).1.av,bq (jb s m).2]):=by
 refine Fn.go 76 Tryz.func245 Tryz.ntmps245 (λW I a U=>?_)
 have aj:=jY.2 hg
 have cT:=hg.ok
 have jE:=hg.small
 have lR:=oB hm
 have lens:m.aO.length<=9223372036854775807/\m.ao.length<=9223372036854775807/\m.waits.length<=9223372036854775807/\m.aD.length<=9223372036854775807:=⟨U.ln 1 9,U.ln 1 12,U.ln 1 13,U.ln 1 14⟩
 have h3:=hg.aG
 refine aF λI a w U=>?_
 refine U.alloc rfl cm dF λb4 I a w U=>?_
 refine ai λI a w U=>?_
 refine U.dk ?_
 refine nx ?_
 refine .q .F (dS (i:=0) cJ bA .ag .c (λhg=>by simp at hg;omega)) ?_
 refine bT ?_
 refine .q .F (.cl (yK s (ab m.ao 0).key h3)) ?_
 refine fK ?_
 refine .q .F (dS (i:=0) cJ bA .ag .c (λhg=>by simp at hg;omega)) ?_
 refine bn ?_
 refine .q .F (.cl (GJ ..)) ?_
 refine bT ?_
 refine .nil ?_
 intro I a w U
 refine aY ?_
 refine U.cd (λae=>?_) λae=>?_
 ·rw[N9 ho] at ae;replace ae:=nt ae
  refine aI λI a w U=>?_
  refine U.ret rfl (.cons (.sx 0) (.cons (.nil (sz:=15) rfl) aX.nil)) ?_
  exact(by unfold jb;rw[ae];rfl)
 ·rw[N9 ho] at ae;replace ae:=nf ae
  refine aF λI a w U=>?_
  refine U.o (dS (i:=0) cJ bA .tt .c (λ_=>by have:=(AF ae).2.2.1;omega)) λU=>?_
  refine U.o .la λU=>?_
  refine U.alloc rfl bA dE λb6 I a w U=>?_
  refine ai λI a w U=>?_
  obtain⟨I,U⟩:=U.fb 1 6
  refine U.o .la λU=>?_
  refine U.o (.c1 (ua s jE)) λU=>U.alloc rfl cm dF λb7 I a w U=>?_
  refine ai λI a w U=>?_
  refine U.dk ?_
  refine cD ?_
  refine .o (.c1 (mS ..)) ?_
  refine .o (.cl (oj ..)) ?_
  refine fi ?_
  refine .q .T (.cl (mS ..)) ?_
  refine .q .T (.cl (oj ..)) ?_
  refine bT ?_
  refine .nil ?_
  intro I a w U
  refine aY ?_
  refine nw (λah=>?_) λah=>?_
  ·refine bk λI a w U=>?_
   refine U.o (.cl (Qs _ _ cT.waits)) λU=>?_
   refine jT λI a w U=>?_
   refine cz (λal=>?_) λal=>?_
   ·refine aI λI a w U=>?_
    refine U.ret rfl (.cons (.sx 0) (.cons (.nil (sz:=15) rfl) aX.nil)) ?_
    exact(by unfold jb;rw[ae,if_pos rfl];dsimp only;rw[if_pos ah,al];rfl)
   ·refine aI λI a w U=>?_
    rw[if_pos al] at U
    refine U.dt 10 ?_
    simp only[TD]
    refine bn ?_
    refine .o (.c1 (y6 {s with waits:=fk s.waits (ab m.ao 0)} (cT.Ip al ah.1) (jz hg.aD))) ?_
    refine fK ?_
    refine .o (.bd eb (.k (.k (.t bf.nil)))) ?_
    refine .o (.c3 (ub s m ⟨6,0,0,0,(ab m.ao 0).key,(ab m.ao 0).aq,0,false,[],0,0,[],[],[]⟩ (wJ ..)))<|.nil ?_
    intro I a w U
    refine aA λI a w U=>?_
    refine U.ret rfl (.cons (.sx 0) (.cons .x aX.nil)) ?_
    exact(by unfold jb;rw[ae,if_pos rfl];dsimp only;rw[if_pos ah,al];rfl)
  ·rw[<-Bool.not_eq_true] at ah;simp only[B] at ah
   refine zt ?_
   refine U.dt 10 ?_
   simp only[TD]
   refine bn ?_
   refine .o (.c1 (y6 s cT (jz hg.aD))) ?_
   refine fK ?_
   refine .o (.bd eb (.k (.k (.t bf.nil)))) ?_
   refine .o (.c3 (ub s m ⟨6,0,0,0,(ab m.ao 0).key,(ab m.ao 0).aq,0,false,[],0,0,[],[],[]⟩ (wJ ..)))<|.nil ?_
   intro I a w U
   refine aA λI a w U=>?_
   refine U.ret rfl (.cons (.sx 0) (.cons .x aX.nil)) ?_
   exact(by unfold jb;rw[ae,if_pos rfl];dsimp only;rw[if_neg ah];rfl)
theorem abA (s:Server) (m:aC) (hg:bF s) (hm:bO m=true) (hf:((m.aR==fl s.site)&&decide (1<=m.bz))=true):
 Fn Tryz.prog 252 [s.av,m.av] (AV.dx [(gV s m).1.av,bq (gV s m).2]):=by
 refine Fn.go 106 Tryz.func252 Tryz.ntmps252 (λW I a U=>?_)
 have aj:=jY.2 hg
 have cT:=hg.ok
 have jE:=hg.small
 have lR:=oB hm
 have jX:=qK hm
 have lens:m.aO.length<=9223372036854775807/\m.ao.length<=9223372036854775807/\m.waits.length<=9223372036854775807/\m.aD.length<=9223372036854775807:=⟨U.ln 1 9,U.ln 1 12,U.ln 1 13,U.ln 1 14⟩
 have h3:=hg.aG
 have oO:=cT.drop m.slot
 have hdo:=jz (hg.dY m.slot).aD
 have Lt:=jz lR.2.2.1
 have hdv:=fV oO.ao
 have hdw:=fV oO.waits
 have e9:∀x,x=dG.cells ⟨m.bz,1⟩->(List.map dG.cells s.aG).set m.slot.toNat x=List.map dG.cells ((dY s m.slot).aG.set m.slot.toNat ⟨m.bz,1⟩):=λx h=>by rw[h];exact List.map_set.symm
 refine aF λI a w U=>?_
 refine U.alloc rfl cm dF λb4 I a w U=>?_
 refine gz λI a w U=>?_
 refine U.o (.bd eb (.k (.k (.k bf.nil)))) λU=>?_
 refine U.o (.c3 (ub s m ⟨10,0,0,0,0,⟨0,0⟩,0,false,[],m.slot,m.bz,[],[],[]⟩ (wJ ..))) λU=>?_
 refine aA λI a w U=>?_
 refine cz (λae=>?_) λae=>?_
 ·refine aU λI a w U=>?_
  refine U.ret rfl (.cons (.sx 0) (.cons .x aX.nil)) ?_
  exact(by rw[Qy hf (by omega)];rfl)
 ·refine bk λI a w U=>?_
  refine U.cG [] (Qv s m.slot jE) (aw .tt (aw .tt aL)) rfl (by decide) rfl λvS I a w Bg U=>?_
  refine U.alloc rfl cm dF λb7 I a w U=>?_
  refine wq λI a w U=>?_
  refine U.o (.cl (Qj (dY s m.slot).ao m.ao oO.ao lR.1)) λU=>?_
  refine xZ λI a w U=>?_
  refine U.o (.cl (Qj (dY s m.slot).waits m.waits oO.waits lR.2.1)) λU=>?_
  refine mA λI a w U=>?_
  refine St.lo (σ:=Nat) (14::(run 10 65 [])) ⟨λk=>[(65,AV.int k)],λk=>[Own.box b4 61 [AV.val (.int .i64 0),AV.val (.bool false),AV.rows 2 [],AV.rows 7 [],AV.rows 7 [],AV.rows 3 [],AV.rows 3 []],Own.row vS 104 2 (s.aG.map dG.cells),Own.box b7 61 [AV.int s.site,AV.bool s.up,AV.val vS,bX (dY s m.slot).ao,bX (dY s m.slot).waits,bm ((m.aD.take k).foldl ef (dY s m.slot).aD),bm s.bl]],λk=>k<=m.aD.length⟩ (λk=>m.aD.length-k) 0 U ?aJ ?aK
  case aJ=>exact Nat.zero_le _
  case aK=>
   rintro k I a w aj U
   have hk:k<=m.aD.length:=aj
   dsimp only at U
   refine ai λI a w U=>?_
   refine cz (λah=>?_) λah=>?_
   ·refine aF λI a w U=>?_
    refine U.alloc rfl cH fL λsg I a w U=>?_
    refine ai λI a w U=>?_
    obtain⟨I,U⟩:=U.fb 3 14
    refine bk λI a w U=>?_
    refine U.o (bY (Ij ((m.aD.take k).foldl ef (dY s m.slot).aD) (ab m.aD k) (by have:=Pa (dY s m.slot).aD m.aD k;omega)) (aw .r (aw (.t rfl) aL))) λU=>?_
    refine aU λI a w U=>?_
    have U:=U.drop 3
    rw[<-O8 ah] at U
    exact U.ag (k+1) (ah)
   ·refine zt ?_
    refine jj λI a w U=>?_
    obtain⟨bS,cS,rfl⟩:=U.j7 1 rfl (by rw[List.length_map];omega)
    refine dD λI a w U=>?_
    refine U.o (.bd oe (.k (.k bf.nil))) λU=>?_
    refine U.o (jr fU er .tt .tt (λ_=>by simp only[List.length_map];omega)) λU=>?_
    refine U.lX 1 er .tt .tt rfl (by exact fG (by omega)) rfl rfl λa w U=>?_
    refine zt ?_
    rw[e9] at U
    rotate_left
    ·rfl
    obtain⟨I,U⟩:=U.fu 1 2 2
    rw[show m.aD.take k=m.aD from List.take_of_length_le (by omega)] at U
    refine Cj λI a w U=>?_
    refine U.q .F (.cl (xq (lQ s m))) λU=>?_
    refine aA λI a w U=>?_
    refine U.cd (λal=>?_) λal=>?_
    ·rw[QB] at al;replace al:=nt al
     refine aI λI a w U=>?_
     refine U.ret rfl (.cons (.sx 0) (.cons (.nil (sz:=15) rfl) aX.nil)) ?_
     exact(by rw[It hf (by omega) al];rfl)
    ·rw[QB] at al;replace al:=nf al
     refine bH λI a w U=>?_
     refine U.o (bY (y6 (lQ s m) (jY.1 (by simp only[Bool.and_eq_true] at al;exact al.2)).ok (jz (jY.1 (by simp only[Bool.and_eq_true] at al;exact al.2)).aD)) (aw (.t rfl) aL)) λU=>?_
     refine aI λI a w U=>?_
     refine U.ret rfl (.cons (.sx 0) (.cons .x aX.nil)) ?_
     exact(by rw[Qz hf (by omega) al];rfl)
theorem abE (s:Server) (hg:bF s):
 Fn Tryz.prog 132 [s.av] (bq (kJ s)):=by
 refine Fn.go 129 Tryz.func132 Tryz.ntmps132 (λW I a U=>?_)
 have U:=U.gC (sz:=15) 70
 have U:=U.gC (sz:=3) 63
 have aj:=jY.2 hg
 have cT:=hg.ok
 have jE:=hg.small
 have lens:s.aG.length<=9223372036854775807/\s.ao.length<=9223372036854775807/\s.waits.length<=9223372036854775807/\s.aD.length<=9223372036854775807/\s.bl.length<=9223372036854775807:=⟨U.ln 0 2,U.ln 0 3,U.ln 0 4,U.ln 0 5,U.ln 0 6⟩
 have h3:=hg.aG
 have A5:=fV hg.ao
 have lR:=fV hg.waits
 have kv:=jz hg.aD
 have qZ:∀v∈s.waits,v.aO.length<=6:=λv hv=>gR (jk (gu hg.waits v hv)).2.2
 have hsd:=GZ hg.site
 refine bk λI a w U=>?_
 refine U.o (.c1 (xq s)) λU=>?_
 refine jj λI a w U=>?_
 refine U.cd (λae=>?_) λae=>?_
 ·rw[Dp] at ae;replace ae:=nt ae
  refine ai λI a w U=>?_
  refine U.ret rfl (.cons (.nil (sz:=15) rfl) aX.nil) ?_
  exact(by rw[aj,Bool.true_and] at ae;rw[OC ae];rfl)
 ·rw[Dp] at ae;replace ae:=nf ae;rw[Bool.and_eq_true] at ae
  refine ck λI a w U=>?_
  refine St.lo (σ:=Nat×Value) (run 3 3 (run 15 27 [])) ⟨λ⟨n,v⟩=>[(27,AV.int n),(3,AV.val v)],λ⟨n,v⟩=>[Own.row v 70 15 ((o8 s n).map aC.cells),Own.row (.slice none 0 0) 63 3 ([])],λ⟨n,v⟩=>n<=s.aG.length⟩ (λ⟨n,v⟩=>s.aG.length-n) (0,(.slice none 0 0)) U ?aJ ?aK
  case aJ=>exact Nat.zero_le _
  case aK=>
   rintro⟨n,v⟩ I a w aj U
   have hn:n<=s.aG.length:=aj
   dsimp only at U
   refine ai λI a w U=>?_
   refine cz (λah=>?_) λah=>?_
   ·refine bk λI a w U=>?_
    refine U.alloc rfl er oe λb5 I a w U=>?_
    refine aA λI a w U=>?_
    obtain⟨I,U⟩:=U.fb 2 5
    refine aI λI a w U=>?_
    refine cz (λal=>?_) λal=>?_
    ·refine bk λI a w U=>?_
     refine U.o (bY (Qi s (n:Int) jE hg.site h3 (by omega)) (aw (.t rfl) (aw (.t rfl) aL))) λU=>?_
     refine U.o (.li [(fM s (n:Int)).cells] gP (.u .nil)) λU=>?_
     refine U.append 0 rfl eU dr rfl .tt .r rfl (by have:=He s n;simp;omega) λO1 a w U=>?_
     rw[cA,Ow (by simpa using al)] at U
     refine aI λI a w U=>?_
     have U:=U.drop 2
     exact U.ag (n+1,O1) (ah)
    ·refine aA λI a w U=>?_
     have U:=U.drop 2
     rw[Ox (by simpa using al)] at U
     exact U.ag (n+1,v) (ah)
   ·refine wp_exit<|cN<|cN<|gw<|aY<|wp_seq ?_
    rw[OD (by omega)] at U
    refine aF λI a w U=>?_
    refine U.o (.c1 (tH _)) λU=>U.o .FU λU=>?_
    refine U.o (kf .c .tt (λ_=>by omega)) λU=>?_
    refine ai λI a w U=>?_
    rw[show 2*(1-bL s.site)=2-2*bL s.site by omega] at U
    refine aU λI a w U=>?_
    refine St.lo (σ:=Nat×Value) (3::(run 3 8 (run 35 50 []))) ⟨λ⟨k,v⟩=>[(50,AV.int k),(3,AV.val v)],λ⟨k,v⟩=>[Own.row v 70 15 ((jA s k).map aC.cells),Own.row (.slice none 0 0) 63 3 ([])],λ⟨k,v⟩=>k<=s.aD.length⟩ (λ⟨k,v⟩=>s.aD.length-k) (0,v) U ?cU ?cV
    case cU=>exact Nat.zero_le _
    case cV=>
     rintro⟨k,v⟩ I a w aj U
     have hk:k<=s.aD.length:=aj
     dsimp only at U
     refine ai λI a w U=>?_
     refine cz (λaH=>?_) λaH=>?_
     ·refine aF λI a w U=>?_
      refine U.alloc rfl cH fL λb8 I a w U=>?_
      refine ai λI a w U=>?_
      obtain⟨I,U⟩:=U.fb 2 8
      refine bk λI a w U=>?_
      refine U.o (.c2 (yK s (ab s.aD k).key h3)) λU=>?_
      refine ai λI a w U=>?_
      refine U.cd (λaM=>?_) λaM=>?_
      ·replace aM:=nt aM
       refine zt ?_
       refine aA λI a w U=>?_
       have U:=U.drop 2
       rw[YE aH aM (ZD hg (aV aH))] at U
       exact U.ag (k+1,v) (aH)
      ·replace aM:=nf aM
       refine zt ?_
       obtain⟨vd,pY,AK,jn⟩:=Pc hg (aV aH)
       obtain⟨qm,DV,QG⟩:=YD pY
       refine U.da 9 ?_
       simp only[TD]
       refine fi ?_
       refine .o (.cl (oj s.ao (ab s.aD k))) ?_
       refine bT ?_
       refine gj.alloc bA dE<|.nil ?_
       intro I a w U
       obtain⟨b9,U⟩:=U.tm (d:=9) rfl
       refine ai λI a w U=>?_
       obtain⟨I,U⟩:=U.fb 3 9
       rw[QG] at U
       rw[show jA s k=jA s k++(kH s (ab s.aD k)).take 0 from by simp] at U
       refine aA λI a w U=>?_
       refine St.lo (σ:=Nat×Int×Value) (3::(10::(run 16 68 []))) ⟨λ⟨j,t,v2⟩=>[(10,AV.int t),(3,AV.val v2)],λ⟨j,t,v2⟩=>[Own.row v2 70 15 ((jA s k++(kH s (ab s.aD k)).take j).map aC.cells),Own.row (.slice none 0 0) 63 3 ([]),Own.gone,Own.gone],λ⟨j,t,v2⟩=>j<=2/\t=2-2*bL s.site+(j:Int)⟩ (λ⟨j,t,v2⟩=>2-j) (0,2-2*bL s.site,v) U ?fo ?fq
       case fo=>exact⟨Nat.zero_le _,by simp⟩
       case fq=>
        rintro⟨j,t,v2⟩ I a w aj U
        obtain⟨hj,rfl⟩:=aj
        dsimp only at U
        refine aU λI a w U=>?_
        refine cz (λbh=>?_) λbh=>?_
        ·refine bM λI a w U=>?_
         refine U.o (.li [vd.cells] lH (.u .nil)) λU=>?_
         refine U.o (.bd eb (.k (.k (.k (.k bf.nil))))) λU=>?_
         refine U.o (.c1 (A4 {cg with kind:=5,aR:=s.site,to:=2-2*bL s.site+(j:Int),ao:=[vd]} (Xc (jE.2.1.2 vd jn)))) λU=>?_
         refine U.o (.li [({cg with kind:=5,aR:=s.site,to:=2-2*bL s.site+(j:Int),ao:=[vd]}:aC).cells] gP (.u .nil)) λU=>?_
         refine U.append 0 rfl eU dr rfl .tt .r rfl (by have:=yD s k hk;simp;omega) λO3 a w U=>?_
         rw[cA,OF (w6 aM).2 pY (by omega)] at U
         refine aU λI a w U=>?_
         exact U.ag (j+1,2-2*bL s.site+(j:Int)+1,O3) (⟨by show j+1<=2;omega,by simp;omega⟩)
        ·refine zt ?_
         refine aA λI a w U=>?_
         have U:=U.drop 2
         rw[OG aH (by omega)] at U
         exact U.ag (k+1,v2) (aH)
     ·refine zt ?_
      refine ai λI a w U=>?_
      rw[OE (by omega)] at U
      refine aU λI a w U=>?_
      refine St.lo (σ:=Nat×Value×Value) (3::(11::(13::(15::(run 40 88 []))))) ⟨λ⟨i,v,u⟩=>[(88,AV.int i),(3,AV.val v),(11,AV.val u)],λ⟨i,v,u⟩=>[Own.row v 70 15 ((oD s (nM s i)).map aC.cells),Own.row u 63 3 ((nM s i).map au.cells)],λ⟨i,v,u⟩=>i<=s.waits.length⟩ (λ⟨i,v,u⟩=>s.waits.length-i) (0,v,(.slice none 0 0)) U ?q8 ?q9
      case q8=>exact Nat.zero_le _
      case q9=>
       rintro⟨i,v,u⟩ I a w aj U
       have hi:i<=s.waits.length:=aj
       dsimp only at U
       refine ai λI a w U=>?_
       refine cz (λaZ=>?_) λaZ=>?_
       ·refine aF λI a w U=>?_
        refine U.alloc rfl bA dE λxf I a w U=>?_
        refine ai λI a w U=>?_
        obtain⟨I,U⟩:=U.fb 2 13
        refine aU λI a w U=>?_
        refine St.lo (σ:=Nat×Value×Value) (3::(11::(15::(run 32 95 [])))) ⟨λ⟨j,v2,u2⟩=>[(95,AV.int j),(3,AV.val v2),(11,AV.val u2)],λ⟨j,v2,u2⟩=>[Own.row v2 70 15 ((oD s (jN s i j)).map aC.cells),Own.row u2 63 3 ((jN s i j).map au.cells),Own.gone],λ⟨j,v2,u2⟩=>j<=(ab s.waits i).aO.length⟩ (λ⟨j,v2,u2⟩=>(ab s.waits i).aO.length-j) (0,v,u) U ?Ix ?Iy
        case Ix=>exact Nat.zero_le _
        case Iy=>
         rintro⟨j,v2,u2⟩ I a w aj U
         have hj:j<=(ab s.waits i).aO.length:=aj
         have hdj:=qZ _ (aV aZ)
         dsimp only at U
         refine ai λI a w U=>?_
         refine cz (λbV=>?_) λbV=>?_
         ·refine aF λI a w U=>?_
          refine U.alloc rfl cH fL λDJ I a w U=>?_
          refine ai λI a w U=>?_
          obtain⟨I,U⟩:=U.fb 3 15
          refine aF λI a w U=>?_
          refine U.o (.c2 (Po s (ab (ab s.waits i).aO j))) λU=>?_
          refine bt λI a w U=>?_
          refine U.q .T (Cf 1 (aw .ag (aw .ag aL)) rfl (AY (jN s i j) (ab (ab s.waits i).aO j)) (λ_ _ _ h=>h)) λU=>?_
          refine aA λI a w U=>?_
          refine U.cd (λcY=>?_) λcY=>?_
          ·rw[Oa] at cY
           refine aF λI a w U=>?_
           refine U.o (.li [(ab (ab s.waits i).aO j).cells] iX (.u .nil)) λU=>?_
           refine U.append 1 rfl dJ cH rfl .tt .r rfl (by have:=yE qZ i hi;have:=AI s i j;have:=qZ _ (aV aZ);simp;omega) λabH a w U=>?_
           rw[cA,show jN s i j++[(ab (ab s.waits i).aO j)]=jN s i (j+1) from by rw[yy bV,C7 cY]] at U
           refine ai λI a w U=>?_
           refine U.dt 12 ?_
           simp only[TD]
           refine fi ?_
           refine .o (.c1 (Hd _ hg.site)) ?_
           refine dq ?_
           refine .o (.bd eb (.k (.k (.k (.k (.t bf.nil)))))) ?_
           refine .o (.li [(mV s (ab (ab s.waits i).aO j)).cells] gP (.u .nil)) ?_
           refine .nil ?_
           intro I a w U
           refine U.append 0 rfl eU dr rfl .tt .r rfl (by have:=yE qZ i hi;have:=AI s i j;have:=qZ _ (aV aZ);have:=yD s _ (Nat.le_refl s.aD.length);simp[oD];omega) λabI a w U=>?_
           rw[cA,OA,show jN s i j++[(ab (ab s.waits i).aO j)]=jN s i (j+1) from by rw[yy bV,C7 cY]] at U
           refine aI λI a w U=>?_
           have U:=U.drop 3
           exact U.ag (j+1,abI,abH) (bV)
          ·rw[Oa] at cY
           refine aA λI a w U=>?_
           have U:=U.drop 3
           rw[show jN s i j=jN s i (j+1) from by rw[yy bV,N6 cY]] at U
           exact U.ag (j+1,v2,u2) (bV)
         ·refine zt ?_
          refine aA λI a w U=>?_
          have U:=U.drop 2
          rw[G1 aZ (by omega)] at U
          exact U.ag (i+1,v2,u2) (aZ)
       ·refine wp_exit<|cN<|cN<|gw<|aY<|wp_seq ?_
        rw[G2 s (by omega),Hg ae.2 h3] at U
        obtain⟨I,U⟩:=U.fr 0 3
        refine aA λI a w U=>?_
        refine U.rt ?_
        rfl
theorem abJ {w:aE} {e:Ev} (h:((e.kind==1)||(e.kind==2)||(e.kind==3))=true):ez w e=((jd {w with time:=w.time+1} e).1,(jd {w with time:=w.time+1} e).2):=by unfold ez;rw[if_pos (by simp at h;omega)]
theorem abK {w:aE} {e:Ev} (h:((e.kind==1)||(e.kind==2)||(e.kind==3))=false) (h2:((e.kind==4)||(e.kind==5))=true):ez w e=((je {w with time:=w.time+1} e).1,(je {w with time:=w.time+1} e).2):=by unfold ez;rw[if_neg (by simp at h;omega),if_pos (by simpa using h2)]
theorem abL {w:aE} {e:Ev} (h:((e.kind==1)||(e.kind==2)||(e.kind==3))=false) (h2:((e.kind==4)||(e.kind==5))=false) (h3:(!aQ e.kind 6 9||!cL e.at_)=true):ez w e=({w with time:=w.time+1},false):=by
 unfold ez;rw[if_neg (by simp at h;omega),if_neg (by simpa using h2),if_neg (by simp at h3;simp;intro h9;rcases h3 with h'|h';(rw[h'] at h9;cases h9);exact h')]
theorem abM {w:aE} {e:Ev} (h:((e.kind==1)||(e.kind==2)||(e.kind==3))=false) (h2:((e.kind==4)||(e.kind==5))=false) (h3:(!aQ e.kind 6 9||!cL e.at_)=false):ez w e=((fI {w with time:=w.time+1} e).1,(fI {w with time:=w.time+1} e).2):=by
 unfold ez;rw[if_neg (by simp at h;omega),if_neg (by simpa using h2),if_pos (by simp at h3⊢;exact h3)]
theorem QH {s:Server} {m:aC} (hg:bF s) (hm:bO m=true):(fJ s m).2.length<=1048576/\∀y∈(fJ s m).2,kD y:=by
 unfold fJ
 split
 ·exact⟨by have:=QA s m;omega,λy hy=>xb (Iw hg hm y hy)⟩
 ·exact⟨Nat.zero_le _,λy hy=>by cases hy⟩
def gF (x:aE) (e:Ev):aE×Bool:=
 if e.kind=1\/e.kind=2\/e.kind=3 then jd x e
 else if e.kind=4\/e.kind=5 then je x e
 else if aQ e.kind 6 9&&cL e.at_ then fI x e
 else(x,false)
theorem QI (w:aE) (e:Ev):ez w e=gF {w with time:=w.time+1} e:=rfl
theorem abN {x:aE} {e:Ev} (h:e.kind=1):gF x e=kQ x e:=by unfold gF jd;rw[if_pos (.inl h),if_pos h]
theorem abO {x:aE} {e:Ev} (h:e.kind=2\/e.kind=3) (hi:cq x.calls e.an<0):gF x e=(x,false):=by unfold gF jd;rw[if_pos (.inr h),if_neg (by omega)];dsimp only;rw[if_pos hi]
theorem abP {x:aE} {e:Ev} (h:e.kind=2) (hi:¬cq x.calls e.an<0):gF x e=({x with ar:=eF x.ar (jP (ab x.calls (cq x.calls e.an).toNat))},true):=by
 unfold gF jd;rw[if_pos (.inr (.inl h)),if_neg (by omega)];dsimp only;rw[if_neg hi,if_neg (by omega)]
theorem abQ {x:aE} {e:Ev} (h:e.kind=3) (hi:¬cq x.calls e.an<0):gF x e=({x with calls:=x.calls.set (cq x.calls e.an).toNat {ab x.calls (cq x.calls e.an).toNat with over:=true}},true):=by
 unfold gF jd;rw[if_pos (.inr (.inr h)),if_neg (by omega)];dsimp only;rw[if_neg hi,if_pos h]
theorem Iz {x:aE} {e:Ev} (h:e.kind=4\/e.kind=5):gF x e=je x e:=by unfold gF;rw[if_neg (by omega),if_pos h]
theorem abR {x:aE} {e:Ev} (h1:¬e.kind=1) (h2:¬(e.kind=2\/e.kind=3)) (h4:¬e.kind=4) (h5:¬e.kind=5) (h:(aQ e.kind 6 9&&cL e.at_)=false):gF x e=(x,false):=by
 unfold gF;rw[if_neg (by omega),if_neg (by omega),h];rfl
theorem y7 {x:aE} {e:Ev} (h:(aQ e.kind 6 9&&cL e.at_)=true):gF x e=fI x e:=by
 have h2:=h
 simp only[aQ,Bool.and_eq_true,decide_eq_true_eq] at h2
 unfold gF;rw[if_neg (by omega),if_neg (by omega),if_pos h]
def wK (l:List Ev) (k:Nat):aE:=(l.take k).foldl (λw e=>(fQ w e).1) cX
theorem QJ {l:List Ev} {k:Nat} (h:¬2000<l.length) (hk:l.length<=k):wK l k=ba l:=by
 unfold wK ba;rw[if_neg h,List.take_of_length_le hk]
inductive Reach:aE->Prop
 |start:Reach cX
 |step {w:aE} {e:Ev}:Reach w->(ez w e).2=true->Reach (ez w e).1
structure cO (n:Nat) (s:dR):Prop where
 reach:Reach s.w
 time:s.w.time<=n
 len:s.list.length<=n
 fit:∀e∈s.list,e.yg
theorem cO.mono {n m:Nat} {s:dR} (h:cO n s) (hm:n<=m):cO m s:=
 ⟨h.reach,by have:=h.time;omega,by have:=h.len;omega,h.fit⟩
theorem cO.start (n:Nat) (v:Value):cO n ⟨cX,[],v⟩:=⟨.start,Int.natCast_nonneg n,Nat.zero_le _,λ_ h=>by simp at h⟩
theorem cO.abS {n:Nat} {s:dR} {e:Ev} (h:cO n s) (he:e.yg) (aj:(ez s.w e).2=true) (v:Value):cO (n+1) ⟨(ez s.w e).1,s.list++[e],v⟩:=
 ⟨h.reach.step aj,by have:=h.time;show(ez s.w e).1.time<=_;rw[Bd];omega,by have:=h.len;show(s.list++[e]).length<=_;simp;omega,λx hx=>by
  rcases List.mem_append.1 hx with hx|hx
  ·exact h.fit x hx
  ·obtain rfl:=List.mem_singleton.1 hx;exact he⟩
theorem abT {l:List Ev} {k:Nat} (h:k<l.length):(fQ (wK l k) (ab l k)).1=wK l (k+1):=by
 unfold wK;rw[dW h,List.foldl_append];rfl
def runN (w:aE) (l:List Ev):aE:=l.foldl (λw e=>(fQ w e).1) w
theorem QK (w:aE) (l m:List Ev):runN w (l++m)=runN (runN w l) m:=by unfold runN;rw[List.foldl_append]
theorem QL {l:List Ev} (h:l.length<=2000):ba l=runN cX l:=by unfold ba;rw[if_neg (by omega)];rfl
theorem QM {l:List Ev} (h:l.length<=2000) (k:Nat):ba l=runN (ba (l.take k)) (l.drop k):=by
 rw[QL h,QL (l:=l.take k) (by rw[List.length_take];omega),<-QK,List.take_append_drop]
theorem IA {R:aE->Prop}:∀{l:List Ev} {w:aE},R w->(∀w e,e∈l->R w->R (fQ w e).1)->R (runN w l)
 |[],_,h,_=>h
 |e::l,w,h,U=>IA (l:=l) (w:=(fQ w e).1) (U w e (by simp) h) λw x hx h=>U w x (by simp[hx]) h
def ra (l:List Ev) (c k:Nat):aE:=runN (ba (l.take c)) ((l.take k).drop c)
theorem QN (l:List Ev) (c:Nat):ra l c c=ba (l.take c):=by
 unfold ra
 rw[List.drop_eq_nil_of_le (by rw[List.length_take];omega)];rfl
theorem abU {l:List Ev} {c k:Nat} (h:k<l.length) (hc:c<=k):(fQ (ra l c k) (ab l k)).1=ra l c (k+1):=by
 unfold ra
 rw[dW h,List.drop_append_of_le_length (by rw[List.length_take];omega),QK];rfl
theorem abV {l:List Ev} {c k:Nat} (h:l.length<=k) (hl:l.length<=2000):ra l c k=ba l:=by
 unfold ra
 rw[List.take_of_length_le h,<-QM hl]
theorem abW {l:List Ev} {more:List UInt8} {k:Nat} (hk:2000<l.length->k=(jV l more).toNat) (he:l.length<=k\/2000<l.length):ra l (jV l more).toNat k=ba l:=by
 by_cases hl:2000<l.length
 ·rw[hk hl,QN,XI more hl]
  unfold ba
  rw[if_pos hl,if_neg (by simp)];rfl
 ·exact abV (by omega) (by omega)
end Go.Proofs.YtjepcfpkclegdaaGreat
