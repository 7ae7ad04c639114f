/- Part 30: contracts of functions, plain facts. -/
import Derived.Test.YtjepcfpkclegdaaGreatP23
import Derived.Test.YtjepcfpkclegdaaGreatP24
import Derived.Test.YtjepcfpkclegdaaGreatP27
import Derived.Test.YtjepcfpkclegdaaGreatP29
set_option linter.unusedVariables false
set_option linter.unusedSimpArgs false
set_option maxRecDepth 100000
set_option maxHeartbeats 4000000
namespace Go.Proofs.YtjepcfpkclegdaaGreat
open Go Go.RowKit
attribute [local irreducible] wpList Code.wp Ok
theorem adu (s:Server) (m:aC) (hg:bF s):
 Fn Tryz.prog 177 [s.av,m.av] (AV.dx [(fJ s m).1.av,bq (fJ s m).2]):=by
 refine Fn.go 118 Tryz.func177 Tryz.ntmps177 (λW I a U=>?_)
 have aj:=jY.2 hg
 have cT:=hg.ok
 refine aF λI a w U=>?_
 refine U.alloc rfl cm dF λb4 I a w U=>?_
 refine ai λI a w U=>?_
 refine U.l0 λma I a w U=>?_
 obtain⟨I,U⟩:=U.fr 1 11
 refine aF λI a w U=>?_
 refine U.o (.c1 (vw ..)) λU=>?_
 refine ai λI a w U=>?_
 refine U.cd (λae=>?_) λae=>?_
 ·exfalso;rw[aj] at ae;cases ae
  skip
 ·refine bH λI a w U=>?_
  refine U.o (.c1 (AR s hg.small)) λU=>U.alloc rfl cm dF λb7 I a w U=>?_
  refine dD λI a w U=>?_
  refine U.q .F (.cl (Hb ..)) λU=>?_
  refine mA λI a w U=>?_
  refine U.cd (λah=>?_) λah=>?_
  ·rw[C6] at ah;replace ah:=nt ah
   refine aU λI a w U=>?_
   refine U.ret rfl (.cons (.sx 0) (.cons .x aX.nil)) ?_
   exact(by unfold fJ;rw[ah];rfl)
  ·rw[C6] at ah;replace ah:=nf ah;have hm:=(GM ah).2
   refine aF λI a w U=>?_
   refine nn ?_
   refine St.cut (σ:=Server×List aC) (run 3 8 (run 77 37 [])) ⟨λ⟨u,ws⟩=>[(8,bq ws)],λ⟨u,ws⟩=>[Own.box b4 61 [AV.val (.int .i64 0),AV.val (.bool false),AV.rows 2 [],AV.rows 7 [],AV.rows 7 [],AV.rows 3 [],AV.rows 3 []],Own.gone,Own.box b7 61 u.cells],λ⟨u,ws⟩=>eG s m=(u,ws)⟩ U ?IW ?IX
   case IW=>
    refine aU λI a w U=>?_
    refine cz (λal=>?_) λal=>?_
    ·refine aF λI a w U=>?_
     refine U.o (.c2 (acN s m hg hm)) λU=>?_
     refine ck λI a w U=>?_
     have U:=U.drop 3
     exact U.me ((iL s m).1,(iL s m).2) (by first|exact qR al|exact qS aH|exact qT aM|exact qU bh|exact sj aZ bV cT.ao|exact sk aZ bV cT.ao|exact qV cY|exact qW fw|exact qX jF|exact so al aH aM bh aZ cY fw jF)
    ·refine aA λI a w U=>?_
     refine cz (λaH=>?_) λaH=>?_
     ·refine aF λI a w U=>?_
      refine U.o (.c2 (acS s m aj)) λU=>?_
      refine ai λI a w U=>?_
      have U:=U.drop 3
      exact U.me (s,jm s m) (by first|exact qR al|exact qS aH|exact qT aM|exact qU bh|exact sj aZ bV cT.ao|exact sk aZ bV cT.ao|exact qV cY|exact qW fw|exact qX jF|exact so al aH aM bh aZ cY fw jF)
     ·refine aA λI a w U=>?_
      refine cz (λaM=>?_) λaM=>?_
      ·refine aF λI a w U=>?_
       refine U.o (.c2 (acM s m hg hm)) λU=>?_
       refine ck λI a w U=>?_
       have U:=U.drop 3
       exact U.me ((jb s m).1,(jb s m).2) (by first|exact qR al|exact qS aH|exact qT aM|exact qU bh|exact sj aZ bV cT.ao|exact sk aZ bV cT.ao|exact qV cY|exact qW fw|exact qX jF|exact so al aH aM bh aZ cY fw jF)
      ·refine aA λI a w U=>?_
       refine cz (λbh=>?_) λbh=>?_
       ·refine aF λI a w U=>?_
        refine U.o (.c2 (aag s m cT (jz hg.aD) hm)) λU=>?_
        refine ai λI a w U=>?_
        have U:=U.drop 3
        exact U.me (mY s m,[]) (by first|exact qR al|exact qS aH|exact qT aM|exact qU bh|exact sj aZ bV cT.ao|exact sk aZ bV cT.ao|exact qV cY|exact qW fw|exact qX jF|exact so al aH aM bh aZ cY fw jF)
       ·refine aA λI a w U=>?_
        refine cz (λaZ=>?_) λaZ=>?_
        ·refine dD λI a w U=>?_
         refine U.o (.cl (tU ..)) λU=>?_
         refine bk λI a w U=>?_
         refine U.alloc rfl bA dE λb9 I a w U=>?_
         refine U.sb 3 λU=>?_
         obtain⟨I,U⟩:=U.fb 3 9
         refine ai λI a w U=>?_
         refine U.dk ?_
         refine fK ?_
         refine .q .T (.cl (yp _ hg.site)) ?_
         refine bT ?_
         refine .nil ?_
         intro I a w U
         refine aY ?_
         refine U.cd (λbV=>?_) λbV=>?_
         ·refine lE λI a w U=>?_
          refine U.o (.bd eb (.k (.k (.k (.k (.t bf.nil)))))) λU=>?_
          refine U.o (.li [(nG s m).cells] gP (.u .nil)) λU=>?_
          refine ai λI a w U=>?_
          have U:=U.drop 3
          exact U.me (s,[nG s m]) (by first|exact qR al|exact qS aH|exact qT aM|exact qU bh|exact sj aZ bV cT.ao|exact sk aZ bV cT.ao|exact qV cY|exact qW fw|exact qX jF|exact so al aH aM bh aZ cY fw jF)
         ·refine zt ?_
          have U:=U.drop 3
          exact U.me (s,[]) (by first|exact qR al|exact qS aH|exact qT aM|exact qU bh|exact sj aZ bV cT.ao|exact sk aZ bV cT.ao|exact qV cY|exact qW fw|exact qX jF|exact so al aH aM bh aZ cY fw jF)
        ·refine aA λI a w U=>?_
         refine cz (λcY=>?_) λcY=>?_
         ·refine aF λI a w U=>?_
          refine U.o (.c2 (acp s m cT hg.site)) λU=>?_
          refine ai λI a w U=>?_
          have U:=U.drop 3
          exact U.me (nN s m,[]) (by first|exact qR al|exact qS aH|exact qT aM|exact qU bh|exact sj aZ bV cT.ao|exact sk aZ bV cT.ao|exact qV cY|exact qW fw|exact qX jF|exact so al aH aM bh aZ cY fw jF)
         ·refine aA λI a w U=>?_
          refine cz (λfw=>?_) λfw=>?_
          ·refine aF λI a w U=>?_
           refine U.o (.c2 (adb s m hg hm)) λU=>?_
           refine ck λI a w U=>?_
           have U:=U.drop 3
           exact U.me ((gV s m).1,(gV s m).2) (by first|exact qR al|exact qS aH|exact qT aM|exact qU bh|exact sj aZ bV cT.ao|exact sk aZ bV cT.ao|exact qV cY|exact qW fw|exact qX jF|exact so al aH aM bh aZ cY fw jF)
          ·refine aA λI a w U=>?_
           refine cz (λjF=>?_) λjF=>?_
           ·refine aF λI a w U=>?_
            refine U.o (.c2 (acq s m cT hg.site (jz hg.aD) hm)) λU=>?_
            refine ai λI a w U=>?_
            have U:=U.drop 3
            exact U.me (m7 s m,[]) (by first|exact qR al|exact qS aH|exact qT aM|exact qU bh|exact sj aZ bV cT.ao|exact sk aZ bV cT.ao|exact qV cY|exact qW fw|exact qX jF|exact so al aH aM bh aZ cY fw jF)
           ·refine zt ?_
            have U:=U.drop 3
            exact U.me (s,[]) (by first|exact qR al|exact qS aH|exact qT aM|exact qU bh|exact sj aZ bV cT.ao|exact sk aZ bV cT.ao|exact qV cY|exact qW fw|exact qX jF|exact so al aH aM bh aZ cY fw jF)
   case IX=>
    rintro⟨u,ws⟩ I a w aj U
    have hu:bF u:=by have:=IN hg hm (GM ah).1;rw[aj] at this;exact this
    have hw:∀y∈ws,bO y=true:=by have:=Iw hg hm;rw[aj] at this;exact this
    refine bH λI a w U=>?_
    refine U.o (.c1 (AR u hu.small)) λU=>U.m λU=>?_
    refine U.o (bY (Hx ws (by have:=QA s m;rw[aj] at this;have:ws.length<=1:=this;omega) (λy hy=>xb (hw y hy))) (aw .r aL)) λU=>?_
    refine aA λI a w U=>?_
    refine U.ret rfl (.cons (.sx 0) (.cons .x aX.nil)) ?_
    exact(by unfold fJ;rw[ah,if_pos rfl,aj];rfl)
theorem adv (x:aE) (e:Ev) (hg:cx x) (ht:x.time<=1000000):
 Fn Tryz.prog 122 [x.av,e.av] (AV.dx [(je x e).1.av,AV.bool (je x e).2]):=by
 refine Fn.go 87 Tryz.func122 Tryz.ntmps122 (λW I a U=>?_)
 have ku:=hg.ar
 have jX:=hg.ax
 have uh:=Qa hg e
 refine sr<|U.box rfl .tt λb2 I a w U=>U.o .bp λU=>U.alloc rfl df dz λb4 I a w U=>?_
 refine gz λI a w U=>?_
 refine U.o (.cl (jM ..)) λU=>?_
 refine ai λI a w U=>?_
 refine U.cd (λae=>?_) λae=>?_
 ·rw[Bool.not_eq_true'] at ae
  refine aI λI a w U=>?_
  refine U.ret rfl (.cons (.sx 1) (.cons (.t rfl) aX.nil)) ?_
  exact(by rw[DS ae];rfl)
 ·rw[Bool.not_eq_false'] at ae;have tb:=ae;simp only[aQ,Bool.and_eq_true,decide_eq_true_eq] at tb;have hm:=hg.words _ (aV (l:=x.ar) (k:=e.word.toNat) (by omega))
  refine dD λI a w U=>?_
  refine U.alloc rfl dr eb λb6 I a w U=>?_
  refine U.sb 2 λU=>?_
  obtain⟨I,U⟩:=U.fb 2 6
  refine nn ?_
  refine St.cut (σ:=List aC) (run 23 24 []) ⟨λrd=>[],λrd=>[Own.box b2 30 [AV.int x.time,bR x.ax,bq rd,bK x.calls,bQ x.seen],Own.box b4 30 [AV.val (.int .i64 0),AV.rows 7 [],AV.rows 15 [],AV.rows 13 [],AV.rows 1 []],Own.gone],λrd=>rd=jc x e⟩ U ?rf ?rh
  case rf=>
   refine ob λI a w U=>?_
   refine U.cd (λah=>?_) λah=>?_
   ·have U:=U.fT
    refine U.eo [([],none),([],none),([0],none),([],none),([],none),([],none),([3],some (3,[38])),([],none),([0],none),([],none),([],none),([],none),([],none),([3],some (3,[])),([],none),([0],some (0,[]))] (by kernel_rfl) (by kernel_rfl) rfl ?_
    refine .o (rG eU dr) ?_
    refine bn ?_
    refine .r [0] (.lb 0) ?_
    refine bT ?_
    refine .o (te eU dr .r .tt (λ_=>by simp only[List.length_map];omega)) ?_
    refine aS.wh 3 rfl rfl eU dr rfl .tt .r (by simp;omega) ?_
    refine bn ?_
    refine .r [0] (.lb 0) ?_
    refine cD ?_
    refine .o (BV eU dr .r .tt (λ_=>by simp only[List.length_map];omega)) ?_
    refine aS.xW 3 rfl rfl eU dr rfl .r (by simp;omega) ?_
    refine bn ?_
    refine aS.iW (x:=AV.any) 0 (λF W0 I0 I a w Q U kk=>U.s1 0 λU=>kk _ _ _ U) ?_
    refine .nil ?_
    intro I a w U
    rw[<-List.map_take,<-List.map_drop,<-List.map_append,show(e.word+1).toNat=e.word.toNat+1 by omega] at U
    refine aY ?_
    have U:=U.drop 3
    exact U.me (x.ar.take e.word.toNat++x.ar.drop (e.word.toNat+1)) (by first|exact(if_pos (by simpa using ah)).symm|exact(if_neg (by simpa using ah)).symm)
   ·refine zt ?_
    have U:=U.drop 3
    exact U.me x.ar (by first|exact(if_pos (by simpa using ah)).symm|exact(if_neg (by simpa using ah)).symm)
  case rh=>
   rintro rd I a w aj U
   obtain rfl:rd=jc x e:=aj
   refine aI λI a w U=>?_
   refine cz (λal=>?_) λal=>?_
   ·refine aI λI a w U=>?_
    refine U.ret rfl (.cons (.sx 1) (.cons (.t rfl) aX.nil)) ?_
    exact(by rw[vy ae,if_pos al];rfl)
   ·refine aF λI a w U=>?_
    refine U.o (.c1 (AA ..)) λU=>?_
    refine zt ?_
    refine U.cd (λaH=>?_) λaH=>?_
    ·refine aF λI a w U=>?_
     refine U.o (.c2 (adp {x with ar:=jc x e} (ab x.ar e.word.toNat) uh ht aH)) λU=>?_
     refine aA λI a w U=>?_
     refine U.ret rfl (.cons (.sx 1) (.cons (.t rfl) aX.nil)) ?_
     exact(by rw[vy ae,if_neg al,if_pos aH];rfl)
    ·have ke:=Xj hm aH;have iP:=(hg.site (ab x.ar e.word.toNat).to.toNat (by omega)).2
     refine zt ?_
     have U:=U.fT
     refine U.eo [([],none),([0],none),([],none),([],none),([],none),([],none),([],none),([],none),([],none),([],none),([],none),([3],some (3,[7])),([3],some (3,[7])),([],none)] (by kernel_rfl) (by kernel_rfl) rfl ?_
     refine bn ?_
     refine .r [0] (.lb 0) ?_
     refine fi ?_
     refine .o (.c2 (adu (ab x.ax (ab x.ar e.word.toNat).to.toNat) (ab x.ar e.word.toNat) iP)) ?_
     refine cD ?_
     refine aS.alloc 3 rfl rfl cm dF<|aS.mz 3 rfl cm rfl .tt rfl rfl ?_
     refine bn ?_
     refine .nil ?_
     intro I a w U
     obtain⟨b7,U⟩:=U.lC (d:=7) 3 rfl rfl
     obtain⟨I,U⟩:=U.fb 3 7
     refine zt ?_
     refine U.l0 λb68 I a w U=>?_
     refine aF λI a w U=>?_
     refine U.ap 4 λv71 a w U=>?_
     simp only[List.nil_append] at U
     refine U.o .fv λU=>?_
     try have alg:=U.eJ 4 rfl
     refine ai λI a w U=>?_
     obtain⟨Bl,Bm,ri⟩:=U.j7 4 rfl (by simp only[List.length_map];omega)
     subst ri
     refine bM λI a w U=>?_
     refine U.o (jr tw cm .tt .tt (λ_=>by simp only[List.length_map];omega)) λU=>?_
     refine U.lX 4 cm .tt .tt rfl (by exact fG (by omega)) rfl rfl λa w U=>?_
     refine nn<|wp_seq ?_
     have e9:∀y,y=Server.cells (fJ (ab x.ax (ab x.ar e.word.toNat).to.toNat) (ab x.ar e.word.toNat)).1->(List.map Server.cells x.ax).set (ab x.ar e.word.toNat).to.toNat y=List.map Server.cells (x.ax.set (ab x.ar e.word.toNat).to.toNat (fJ (ab x.ax (ab x.ar e.word.toNat).to.toNat) (ab x.ar e.word.toNat)).1):=λy hy=>by rw[hy,List.map_set]
     rw[e9] at U
     rotate_left
     ·rfl
     obtain⟨I,U⟩:=U.fu 4 1 0
     refine St.region ?_
     refine U.l0 λb79 I a w U=>?_
     refine aF λI a w U=>?_
     refine U.append 5 rfl eU dr rfl .tt .r rfl (by have h9:(jc x e).length<=60:=uh.ar;simp;omega) λIM a w U=>?_
     simp only[List.nil_append] at U
     refine U.m λU=>?_
     refine U.eT [5] (DC IM (jc x e) (fJ (ab x.ax (ab x.ar e.word.toNat).to.toNat) (ab x.ar e.word.toNat)).2 uh.ar) (aw .r (aw .r aL)) rfl (by decide) rfl λI a w U=>?_
     refine ck λI a w U=>?_
     refine U.ret rfl (.cons (.sx 1) (.cons (.t rfl) aX.nil)) ?_
     exact(by rw[vy ae,if_neg al,if_neg (by rw[aH];simp)];rfl)
end Go.Proofs.YtjepcfpkclegdaaGreat
