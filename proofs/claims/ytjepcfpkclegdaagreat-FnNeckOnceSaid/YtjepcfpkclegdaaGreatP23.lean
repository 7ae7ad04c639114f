/- Part 23: contracts of functions, plain facts. -/
import Derived.Test.YtjepcfpkclegdaaGreatP20
set_option linter.unusedVariables false
set_option linter.unusedSimpArgs false
set_option maxRecDepth 100000
set_option maxHeartbeats 4000000
namespace Go.Proofs.YtjepcfpkclegdaaGreat
open Go Go.RowKit
attribute [local irreducible] wpList Code.wp Ok
theorem acM (s:Server) (m:aC) (hg:bF s) (hm:bO m=true):
 Fn Tryz.prog 212 [s.av,m.av] (AV.dx [(jb s m).1.av,bq (jb s m).2]):=by
 refine Fn.go 115 Tryz.func212 Tryz.ntmps212 (λW I a U=>?_)
 have aj:=jY.2 hg
 have cT:=hg.ok
 have lR:=oB hm
 refine sr<|U.box rfl .tt λb2 I a w U=>U.o .bp λU=>U.alloc rfl cm dF λb4 I a w U=>?_
 refine ai λI a w U=>?_
 refine U.l0 λsg I a w U=>?_
 obtain⟨I,U⟩:=U.fr 2 14
 refine ai λI a w U=>?_
 refine U.dk ?_
 refine bT ?_
 refine .o (.c1 (rP ..)) ?_
 refine dq ?_
 refine .q .F (.cl (qw ..)) ?_
 refine bT ?_
 refine .q .F (.cl (qw ..)) ?_
 refine wv ?_
 refine .q .F (dS (i:=0) cJ bA .ag .c (λhg=>by simp only[B] at hg;omega)) ?_
 refine bT ?_
 refine .q .F (.cl (Ic _ _ aj)) ?_
 refine fi ?_
 refine .q .F (dS (i:=0) cJ bA .ag .c (λhg=>by simp only[B] at hg;omega)) ?_
 refine cD ?_
 refine .q .F (.cl (qw ..)) ?_
 refine bT ?_
 refine .q .F (.cl (qw ..)) ?_
 refine bT ?_
 refine .nil ?_
 intro I a w U
 refine aY ?_
 refine U.cd (λae=>?_) λae=>?_
 ·rw[N3] at ae;replace ae:=nt ae
  refine aU λI a w U=>?_
  refine U.ret rfl (.cons (.sx 1) (.cons .x aX.nil)) ?_
  exact(by unfold jb;rw[ae];rfl)
 ·rw[N3] at ae;replace ae:=nf ae
  refine aF λI a w U=>?_
  refine U.o (dS (i:=0) cJ bA .tt .c (λ_=>by have:=(AF ae).2.2.1;omega)) λU=>?_
  refine U.o .la λU=>?_
  refine U.alloc rfl bA dE λb7 I a w U=>?_
  refine ai λI a w U=>?_
  obtain⟨I,U⟩:=U.fb 3 7
  refine dD λI a w U=>?_
  refine U.o (.cl (tU ..)) λU=>?_
  refine bk λI a w U=>?_
  refine U.alloc rfl bA dE λb8 I a w U=>?_
  refine U.sb 4 λU=>?_
  obtain⟨I,U⟩:=U.fb 4 8
  refine gz λI a w U=>?_
  refine U.o (.cl (tU ..)) λU=>?_
  refine bk λI a w U=>?_
  refine U.alloc rfl bA dE λlN I a w U=>?_
  refine U.sb 5 λU=>?_
  obtain⟨I,U⟩:=U.fb 5 10
  refine jT λI a w U=>?_
  refine U.cd (λah=>?_) λah=>?_
  ·rw[Nv s (ab m.ao 0) cT.ao cT.waits,decide_eq_true_eq] at ah
   refine bk λI a w U=>?_
   refine U.o (.cl (DP _ _ cT.waits)) λU=>?_
   refine jT λI a w U=>?_
   refine cz (λal=>?_) λal=>?_
   ·refine aU λI a w U=>?_
    refine U.ret rfl (.cons (.sx 1) (.cons .x aX.nil)) ?_
    exact(by unfold jb;rw[ae,if_pos rfl];dsimp only;rw[if_pos ah,al];rfl)
   ·refine aI λI a w U=>?_
    rw[if_pos al] at U
    refine U.o (.ls 0) λU=>U.o (.c1 (y8 {s with waits:=fk s.waits (ab m.ao 0)} (cT.Ip al ah.1))) λU=>?_
    refine ai λI a w U=>?_
    refine U.eo [([0],none),([],none),([0],none),([],none),([],none),([],none),([],none),([],none),([],none),([],none),([],none),([1],some (1,[])),([],none)] (by kernel_rfl) (by kernel_rfl) rfl ?_
    refine .r [0] (.ls 0) ?_
    refine bn ?_
    refine .r [0] (.lb 0) ?_
    refine fK ?_
    refine .o (.bd eb (.k (.k (.k (.k (.t bf.nil)))))) ?_
    refine .o (.li [({mU s m (ab m.ao 0) with aR:=(fO {s with waits:=fk s.waits (ab m.ao 0)}).site}).cells] gP (.u .nil)) ?_
    refine aS.iW (x:=AV.any) 1 (λF W0 I0 I a w Q U kk=>U.sb 1 λU=>kk _ _ _ U) ?_
    refine bn ?_
    refine .nil ?_
    intro I a w U
    refine zt ?_
    refine U.ret rfl (.cons (.sx 1) (.cons .x aX.nil)) ?_
    exact(by unfold jb;rw[ae,if_pos rfl];dsimp only;rw[if_pos ah,al,(AT _).1];rfl)
  ·rw[Nv s (ab m.ao 0) cT.ao cT.waits,decide_eq_false_iff_not] at ah
   refine bH λI a w U=>?_
   refine U.o (.c1 (y8 s cT)) λU=>?_
   refine ai λI a w U=>?_
   refine U.eo [([0],none),([],none),([0],none),([],none),([],none),([],none),([],none),([],none),([],none),([],none),([],none),([1],some (1,[])),([],none)] (by kernel_rfl) (by kernel_rfl) rfl ?_
   refine .r [0] (.ls 0) ?_
   refine bn ?_
   refine .r [0] (.lb 0) ?_
   refine fK ?_
   refine .o (.bd eb (.k (.k (.k (.k (.t bf.nil)))))) ?_
   refine .o (.li [({mU s m (ab m.ao 0) with aR:=(fO s).site}).cells] gP (.u .nil)) ?_
   refine aS.iW (x:=AV.any) 1 (λF W0 I0 I a w Q U kk=>U.sb 1 λU=>kk _ _ _ U) ?_
   refine bn ?_
   refine .nil ?_
   intro I a w U
   refine zt ?_
   refine U.ret rfl (.cons (.sx 1) (.cons .x aX.nil)) ?_
   exact(by unfold jb;rw[ae,if_pos rfl];dsimp only;rw[if_neg ah,(AT _).1];rfl)
end Go.Proofs.YtjepcfpkclegdaaGreat
