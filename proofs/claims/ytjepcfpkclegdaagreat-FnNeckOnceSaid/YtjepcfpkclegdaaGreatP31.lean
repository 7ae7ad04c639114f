/- Part 31: contracts of functions, plain facts. -/
import Derived.Test.YtjepcfpkclegdaaGreatP22
import Derived.Test.YtjepcfpkclegdaaGreatP25
set_option linter.unusedVariables false
set_option linter.unusedSimpArgs false
set_option maxRecDepth 100000
set_option maxHeartbeats 4000000
namespace Go.Proofs.YtjepcfpkclegdaaGreat
open Go Go.RowKit
attribute [local irreducible] wpList Code.wp Ok
theorem adw (x:aE) (e:Ev) (hg:cx x) (ht:x.time<=1000000):
 Fn Tryz.prog 121 [x.av,e.av] (AV.dx [(jd x e).1.av,AV.bool (jd x e).2]):=by
 refine Fn.go 53 Tryz.func121 Tryz.ntmps121 (λW I a U=>?_)
 have oH:=hg.lens
 have ku:=hg.ar
 refine sr<|U.box rfl .tt λb2 I a w U=>U.o .bp λU=>U.alloc rfl df dz λb4 I a w U=>?_
 refine bM λI a w U=>?_
 refine U.o (.cl (CG x.calls e.an)) λU=>?_
 refine ck λI a w U=>?_
 refine cz (λae=>?_) λae=>?_
 ·refine aF λI a w U=>?_
  refine U.o (.c2 (acE x e hg ht)) λU=>?_
  refine aU λI a w U=>?_
  refine U.ret rfl (.cons (.sx 1) (.cons (.t rfl) aX.nil)) ?_
  exact(by rw[aaS ae];rfl)
 ·refine aI λI a w U=>?_
  refine cz (λah=>?_) λah=>?_
  ·refine aI λI a w U=>?_
   refine U.ret rfl (.cons (.sx 1) (.cons (.t rfl) aX.nil)) ?_
   exact(by rw[aaT ae ah];rfl)
  ·have hni:=(qu ah).1
   refine aU λI a w U=>?_
   refine cz (λal=>?_) λal=>?_
   ·refine zt ?_
    refine U.l0 λb29 I a w U=>?_
    refine aF λI a w U=>?_
    refine U.ap 2 λRp a w U=>?_
    simp only[List.nil_append] at U
    refine U.o .fv λU=>?_
    try have alk:=U.eJ 2 rfl
    refine ai λI a w U=>?_
    obtain⟨Bl,Bm,ri⟩:=U.j7 2 rfl (by simp only[List.length_map];omega)
    subst ri
    refine bk λI a w U=>?_
    refine U.o (jr mB dQ .tt .tt (λ_=>by simp only[List.length_map];omega)) λU=>?_
    refine U.o .fv λU=>?_
    refine U.zP (j:=8) 2 x4 .tt .c (by first|exact jR rfl|exact j0|exact j1|exact j6|assumption) rfl (by exact fG (by omega)) rfl rfl λa w U=>?_
    refine nn<|wp_seq ?_
    have e9:∀y,y=Call.cells ({ab x.calls (cq x.calls e.an).toNat with over:=true})->(List.map Call.cells x.calls).set (cq x.calls e.an).toNat y=List.map Call.cells (x.calls.set (cq x.calls e.an).toNat ({ab x.calls (cq x.calls e.an).toNat with over:=true})):=λy hy=>by rw[hy,List.map_set]
    rw[e9] at U
    rotate_left
    ·rfl
    obtain⟨I,U⟩:=U.fu 2 3 0
    refine aI λI a w U=>?_
    refine U.ret rfl (.cons (.sx 1) (.cons (.t rfl) aX.nil)) ?_
    exact(by rw[aaU ae ah al];rfl)
   ·refine zt ?_
    have U:=U.fT
    refine U.eo [([],none),([],none),([0],none),([2],some (2,[43])),([],none),([0],none),([],none),([],none),([],none),([],none),([2],some (2,[])),([],none),([0],some (0,[]))] (by kernel_rfl) (by kernel_rfl) rfl ?_
    refine .o (rG eU dr) ?_
    refine bn ?_
    refine .r [0] (.lb 0) ?_
    refine aS.wh 2 rfl rfl eU dr rfl .tt .r (by simp;omega) ?_
    refine bn ?_
    refine .r [0] (.lb 0) ?_
    refine cD ?_
    refine .o (.c1 (acZ _ x.time (hg.call (qu ah).1) ht)) ?_
    refine aS.eT (d':=43) (xs:=λv=>[AV.val v,bq (jP (ab x.calls (cq x.calls e.an).toNat))]) 2 rfl rfl (λv=>DC v x.ar (jP (ab x.calls (cq x.calls e.an).toNat)) hg.ar) (λI a he hg=>Ur rfl ((aw .r aL) I a he hg)) ?_
    refine bn ?_
    refine aS.iW (x:=AV.any) 0 (λF W0 I0 I a w Q U kk=>U.s1 0 λU=>kk _ _ _ U) ?_
    refine .nil ?_
    intro I a w U
    refine aI λI a w U=>?_
    refine U.ret rfl (.cons (.sx 1) (.cons (.t rfl) aX.nil)) ?_
    exact(by rw[aaV ae ah al];rfl)
end Go.Proofs.YtjepcfpkclegdaaGreat
