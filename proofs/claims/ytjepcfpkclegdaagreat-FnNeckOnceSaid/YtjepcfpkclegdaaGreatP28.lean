/- Part 28: contracts of functions, plain facts. -/
import Derived.Test.YtjepcfpkclegdaaGreatP20
import Derived.Test.YtjepcfpkclegdaaGreatP25
set_option linter.unusedVariables false
set_option linter.unusedSimpArgs false
set_option maxRecDepth 100000
set_option maxHeartbeats 4000000
namespace Go.Proofs.YtjepcfpkclegdaaGreat
open Go Go.RowKit
attribute [local irreducible] wpList Code.wp Ok
set_option maxHeartbeats 16000000 in
theorem adj (x:aE) (e:Ev) (hg:cx x) (ht:x.time<=1000000) (yZ:cL e.at_=true):
 Fn Tryz.prog 123 [x.av,e.av] (AV.dx [(fI x e).1.av,AV.bool (fI x e).2]):=by
 refine Fn.go 85 Tryz.func123 Tryz.ntmps123 (λW I a U=>?_)
 have hai:=m0.1 yZ
 have ku:=hg.ar
 have jX:=hg.ax
 have iP:=(hg.site e.at_.toNat (by omega)).2
 have Rk:=jY.2 iP
 refine sr<|U.box rfl .tt λb2 I a w U=>U.o .bp λU=>U.alloc rfl df dz λb4 I a w U=>?_
 refine gz λI a w U=>?_
 refine U.alloc rfl cm dF λb6 I a w U=>?_
 refine ai λI a w U=>?_
 obtain⟨I,U⟩:=U.fb 2 6
 refine U.l0 λb17 I a w U=>?_
 refine aF λI a w U=>?_
 refine U.ap 3 λv20 a w U=>?_
 simp only[List.nil_append] at U
 refine U.o .fv λU=>?_
 try have akW:=U.eJ 3 rfl
 refine ai λI a w U=>?_
 refine U.l0 λZR I a w U=>?_
 refine aF λI a w U=>?_
 refine U.ap 4 λwZ a w U=>?_
 simp only[List.nil_append] at U
 refine ck λI a w U=>?_
 refine cz (λae=>?_) λae=>?_
 ·refine wp_seq ?_
  obtain⟨Bl,Bm,ri⟩:=U.j7 3 rfl (by simp only[List.length_map];omega)
  subst ri
  refine U.dt 7 ?_
  simp only[TD]
  refine fi ?_
  refine .o (.c1 (abt (ab x.ax e.at_.toNat) Rk)) ?_
  refine .o (jr tw cm .tt .tt (λ_=>by simp only[List.length_map];omega)) ?_
  refine .nil ?_
  intro I a w U
  refine U.lX 3 cm .tt .tt rfl (by exact fG (by omega)) rfl rfl λa w U=>?_
  refine nn<|wp_seq ?_
  have e9:∀y,y=Server.cells (o5 (ab x.ax e.at_.toNat))->(List.map Server.cells x.ax).set e.at_.toNat y=List.map Server.cells (x.ax.set e.at_.toNat (o5 (ab x.ax e.at_.toNat))):=λy hy=>by rw[hy,List.map_set]
  rw[e9] at U
  rotate_left
  ·rfl
  obtain⟨I,U⟩:=U.fu 3 1 0
  refine U.eo [([0],none),([],none),([],none),([],none),([1],some (1,[])),([],none)] (by kernel_rfl) (by kernel_rfl) rfl ?_
  refine .r [0] (.ls 0) ?_
  refine cD ?_
  refine aS.iW (x:=AV.any) 1 (λF W0 I0 I a w Q U kk=>U.sb 1 λU=>kk _ _ _ U) ?_
  refine bn ?_
  refine .nil ?_
  intro I a w U
  refine zt ?_
  refine U.ret rfl (.cons (.sx 1) (.cons (.t rfl) aX.nil)) ?_
  exact(by rw[YO ae];rfl)
 ·refine aA λI a w U=>?_
  refine cz (λah=>?_) λah=>?_
  ·refine wp_seq ?_
   obtain⟨Bl,Bm,ri⟩:=U.j7 3 rfl (by simp only[List.length_map];omega)
   subst ri
   refine U.dt 7 ?_
   simp only[TD]
   refine fi ?_
   refine .o (.c1 (aco (ab x.ax e.at_.toNat) Rk)) ?_
   refine .o (jr tw cm .tt .tt (λ_=>by simp only[List.length_map];omega)) ?_
   refine .nil ?_
   intro I a w U
   refine U.lX 3 cm .tt .tt rfl (by exact fG (by omega)) rfl rfl λa w U=>?_
   refine nn<|wp_seq ?_
   have e9:∀y,y=Server.cells (ou (ab x.ax e.at_.toNat))->(List.map Server.cells x.ax).set e.at_.toNat y=List.map Server.cells (x.ax.set e.at_.toNat (ou (ab x.ax e.at_.toNat))):=λy hy=>by rw[hy,List.map_set]
   rw[e9] at U
   rotate_left
   ·rfl
   obtain⟨I,U⟩:=U.fu 3 1 0
   refine U.eo [([0],none),([],none),([],none),([1],some (1,[])),([],none)] (by kernel_rfl) (by kernel_rfl) rfl ?_
   refine .r [0] (.ls 0) ?_
   refine bT ?_
   refine aS.iW (x:=AV.any) 1 (λF W0 I0 I a w Q U kk=>U.sb 1 λU=>kk _ _ _ U) ?_
   refine bn ?_
   refine .nil ?_
   intro I a w U
   refine zt ?_
   refine U.ret rfl (.cons (.sx 1) (.cons (.t rfl) aX.nil)) ?_
   exact(by rw[YP ah];rfl)
  ·refine aA λI a w U=>?_
   refine cz (λal=>?_) λal=>?_
   ·refine aF λI a w U=>?_
    refine U.o (.c1 (acT (ab x.ax e.at_.toNat) iP)) λU=>?_
    refine U.eT [4] (DC wZ x.ar (kJ (ab x.ax e.at_.toNat)) hg.ar) (aw .r (aw .r aL)) rfl (by decide) rfl λI a w U=>?_
    change St _ _ [Own.box b2 30 [AV.int x.time,AV.val v20,bq x.ar,bK x.calls,bQ x.seen],Own.box b4 30 [AV.val (.int .i64 0),AV.rows 7 [],AV.rows 15 [],AV.rows 13 [],AV.rows 1 []],Own.gone,Own.row v20 61 7 (x.ax.map Server.cells),Own.gone] _ _ _ at U
    refine aA λI a w U=>?_
    obtain⟨I,U⟩:=U.fu 3 1 0
    refine U.eo [([0],none),([],none),([],none),([1],some (1,[])),([],none)] (by kernel_rfl) (by kernel_rfl) rfl ?_
    refine .r [0] (.ls 0) ?_
    refine bT ?_
    refine aS.iW (x:=AV.any) 1 (λF W0 I0 I a w Q U kk=>U.sb 1 λU=>kk _ _ _ U) ?_
    refine bn ?_
    refine .nil ?_
    intro I a w U
    refine zt ?_
    refine U.ret rfl (.cons (.sx 1) (.cons (.t rfl) aX.nil)) ?_
    exact(by rw[YQ al];rfl)
   ·refine bk λI a w U=>?_
    refine U.o (.c2 (ab7 (ab x.ax e.at_.toNat) e.slot iP)) λU=>?_
    refine bt λI a w U=>?_
    refine U.alloc rfl cm dF λb8 I a w U=>U.alloc rfl dr eb λb9 I a w U=>?_
    refine U.sb 5 λU=>?_
    obtain⟨I,U⟩:=U.fb 5 8
    refine U.sb 6 λU=>?_
    obtain⟨I,U⟩:=U.fb 6 9
    refine ai λI a w U=>?_
    obtain⟨Bl,Bm,ri⟩:=U.j7 3 rfl (by simp only[List.length_map];omega)
    subst ri
    refine bM λI a w U=>?_
    refine U.o (jr tw cm .tt .tt (λ_=>by simp only[List.length_map];omega)) λU=>?_
    refine U.lX 3 cm .tt .tt rfl (by exact fG (by omega)) rfl rfl λa w U=>?_
    refine nn<|wp_seq<|wp_seq ?_
    have e9:∀y,y=Server.cells (eI (ab x.ax e.at_.toNat) e.slot).1->(List.map Server.cells x.ax).set e.at_.toNat y=List.map Server.cells (x.ax.set e.at_.toNat (eI (ab x.ax e.at_.toNat) e.slot).1):=λy hy=>by rw[hy,List.map_set]
    rw[e9] at U
    rotate_left
    ·rfl
    obtain⟨I,U⟩:=U.fu 3 1 0
    refine ai λI a w U=>?_
    refine U.cd (λaH=>?_) λaH=>?_
    ·refine aF λI a w U=>?_
     refine U.o (.li [(eI (ab x.ax e.at_.toNat) e.slot).2.1.cells] gP (.u .nil)) λU=>?_
     refine U.eT [4] (DC wZ x.ar [(eI (ab x.ax e.at_.toNat) e.slot).2.1] hg.ar) (aw .r (aw .r aL)) rfl (by decide) rfl λI a w U=>?_
     change St _ _ [Own.box b2 30 [AV.int x.time,bR (x.ax.set e.at_.toNat (eI (ab x.ax e.at_.toNat) e.slot).1),bq x.ar,bK x.calls,bQ x.seen],Own.box b4 30 [AV.val (.int .i64 0),AV.rows 7 [],AV.rows 15 [],AV.rows 13 [],AV.rows 1 []],Own.gone,Own.gone,Own.gone,Own.gone,Own.gone] _ _ _ at U
     refine jj λI a w U=>?_
     refine U.ret rfl (.cons (.sx 1) (.cons (.t rfl) aX.nil)) ?_
     exact(by rw[YS ae ah al aH];rfl)
    ·refine aU λI a w U=>?_
     refine U.ret rfl (.cons (.sx 1) (.cons (.t rfl) aX.nil)) ?_
     exact(by rw[YT ae ah al aH];rfl)
end Go.Proofs.YtjepcfpkclegdaaGreat
