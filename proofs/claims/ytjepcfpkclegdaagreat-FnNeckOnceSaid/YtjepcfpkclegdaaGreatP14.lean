/- Part 14: contracts of functions, plain facts. -/
import Derived.Test.YtjepcfpkclegdaaGreatP12
import Derived.Test.YtjepcfpkclegdaaGreatP13
set_option linter.unusedVariables false
set_option linter.unusedSimpArgs false
set_option maxRecDepth 100000
set_option maxHeartbeats 4000000
namespace Go.Proofs.YtjepcfpkclegdaaGreat
open Go Go.RowKit
attribute [local irreducible] wpList Code.wp Ok
theorem DE (q:Call) (time:Int) (ht:time<=4611686018427387904) (si:q.az.length<=1048576):
 Fn Tryz.prog 160 [q.av,AV.int time] (AV.bool (eX q time)):=by
 refine Fn.go 240 Tryz.func160 Tryz.ntmps160 (λW I a U=>?_)
 have lens:q.keys.length<=9223372036854775807/\q.az.length<=9223372036854775807/\q.aP.length<=9223372036854775807:=⟨U.ln 0 3,U.ln 0 11,U.ln 0 12⟩
 refine bt λI a w U=>?_
 refine U.o (.cl (jM ..)) λU=>?_
 refine bt λI a w U=>?_
 refine U.q .F (.cl (jM ..)) λU=>?_
 refine bM λI a w U=>?_
 refine U.q .F (.cl (jM ..)) λU=>?_
 refine bt λI a w U=>?_
 refine U.q .F (.cl (Ww ..)) λU=>?_
 refine bM λI a w U=>?_
 refine U.q .F (.cl (jM ..)) λU=>?_
 refine bM λI a w U=>?_
 refine U.q .F (.cl (rQ ..)) λU=>?_
 refine bM λI a w U=>?_
 refine U.q .F (.cl (rQ ..)) λU=>?_
 refine dD λI a w U=>?_
 refine U.q .F (.cl (jM ..)) λU=>?_
 refine aA λI a w U=>?_
 refine U.cd (λae=>?_) λae=>?_
 ·replace ae:qB q time=false:=by unfold qB;rw[ae];rfl
  refine ai λI a w U=>?_
  refine U.rt ?_
  exact bG (by rw[xe];rw[ae];rfl)
 ·replace ae:qB q time=true:=by unfold qB;rw[ae];rfl
  refine uO λI a w U=>?_
  refine U.q .T (kS .ag .ag (λhg=>by have:=Ph ae;omega)) λU=>?_
  refine wq λI a w U=>?_
  refine U.q .F2 (.bd jU bf.nil) λU=>?_
  refine U.q .F2 (uG [_,_] [_,_] og rfl rfl .ag .ag) λU=>?_
  refine dD λI a w U=>?_
  refine U.q .F (.cl (Nh ..)) λU=>?_
  refine Cm λI a w U=>?_
  refine U.cd (λah=>?_) λah=>?_
  ·rw[C5] at ah;replace ah:yj q=false:=by unfold yj;rw[ah];rfl
   refine ai λI a w U=>?_
   refine U.rt ?_
   exact bG (by rw[xe];rw[ae,ah];rfl)
  ·rw[C5] at ah;replace ah:yj q=true:=by unfold yj;rw[ah];rfl
   refine ai λI a w U=>?_
   refine St.lo (σ:=Nat) (run 2 4 (run 46 98 [])) ⟨λk=>[(5,AV.int k)],λk=>[],λk=>k<=q.az.length/\∀i,i<k->(vp q) i=true⟩ (λk=>q.az.length-k) 0 U ?aJ ?aK
   case aJ=>exact⟨Nat.zero_le _,λi hi=>by omega⟩
   case aK=>
    rintro k I a w aj U
    obtain⟨o1,aN⟩:=aj
    refine ck λI a w U=>?_
    refine cz (λal=>?_) λal=>?_
    ·refine zt ?_
     refine U.dk ?_
     refine fi ?_
     refine .o (.c1 (Wx ..)) ?_
     refine oY ?_
     refine .q .F (.cl (PO ..)) ?_
     refine lG ?_
     refine fK ?_
     refine .nil ?_
     intro I a w U
     refine aY ?_
     refine U.cd (λaH=>?_) λaH=>?_
     ·rw[PQ] at aH;replace aH:=nt aH
      refine ai λI a w U=>?_
      refine U.rt ?_
      exact bG (by rw[xe];rw[eB (f:=vp q) al aH];simp)
     ·rw[PQ] at aH;replace aH:=nf aH
      refine aI λI a w U=>?_
      exact U.ag (k+1) (⟨by omega,fg aN aH⟩)
    ·refine zt ?_
     refine Cn λI a w U=>?_
     refine U.cd (λaM=>?_) λaM=>?_
     ·rw[No] at aM;replace aM:=nt aM
      refine ai λI a w U=>?_
      refine U.rt ?_
      exact bG (by rw[xe];rw[aM];simp)
     ·rw[No] at aM;replace aM:=nf aM
      refine ai λI a w U=>?_
      refine St.lo (σ:=Nat) (4::(run 2 6 (run 34 157 []))) ⟨λk2=>[(6,AV.int k2)],λk2=>[],λk2=>k2<=q.aP.length/\∀i,i<k2->(u4 q) i=true⟩ (λk2=>q.aP.length-k2) 0 U ?cU ?cV
      case cU=>exact⟨Nat.zero_le _,λi hi=>by omega⟩
      case cV=>
       rintro k2 I a w aj U
       obtain⟨xh,jC⟩:=aj
       refine ck λI a w U=>?_
       refine cz (λbh=>?_) λbh=>?_
       ·refine zt ?_
        refine U.dk ?_
        refine lF ?_
        refine .o (.c2 (CO ..)) ?_
        refine bn ?_
        refine .nil ?_
        intro I a w U
        refine aY<|wp_seq<|U.dk ?_
        refine fK ?_
        refine .q .F ((by first|exact dS iI fj .ag .ag (λhg=>by have h0:0<=cv q (ab q.aP k2).key:=(by simpa using hg);have:=vq h0;omega)|exact fS iI fj .ag .ag (λhg=>by have h0:0<=cv q (ab q.aP k2).key:=(by simpa using hg);have:=vq h0;omega)|exact fZ iI fj .ag .ag (λhg=>by have h0:0<=cv q (ab q.aP k2).key:=(by simpa using hg);have:=vq h0;omega))) ?_
        refine tv ?_
        refine .q .F (.cl (yd ..)) ?_
        refine bT ?_
        refine .nil ?_
        intro I a w U
        refine aY ?_
        refine U.cd (λaZ=>?_) λaZ=>?_
        ·rw[M3] at aZ;replace aZ:=nt aZ
         refine ai λI a w U=>?_
         refine U.rt ?_
         exact bG (by rw[xe];rw[eB (f:=u4 q) bh aZ];simp)
        ·rw[M3] at aZ;replace aZ:=nf aZ
         refine aI λI a w U=>?_
         exact U.ag (k2+1) (⟨by omega,fg jC aZ⟩)
       ·refine zt ?_
        refine aI λI a w U=>?_
        refine cz (λbV=>?_) λbV=>?_
        ·refine aF λI a w U=>?_
         refine U.o (.bd jU bf.nil) λU=>?_
         refine U.o (mM [_,_] [_,_] og rfl rfl .tt .tt) λU=>?_
         refine ai λI a w U=>?_
         refine U.rt ?_
         exact bG (by rw[xe];rw[ae,ah,eP aN (by omega),aM,eP jC (by omega),CC];unfold CN;rw[if_pos bV];rfl)
        ·refine lE λI a w U=>?_
         refine U.q .T (kS .ag .c (λhg=>by have:=Ph ae;omega)) λU=>?_
         refine U.q .T .mv λU=>?_
         refine U.q .T (.cl (jM ..)) λU=>?_
         refine UI λI a w U=>?_
         refine U.q .T2 (.cl (wA ..)) λU=>?_
         refine FW λI a w U=>?_
         refine U.rt ?_
         exact bG (by rw[xe];rw[ae,ah,eP aN (by omega),aM,eP jC (by omega)];unfold CN;rw[if_neg bV];rfl)
end Go.Proofs.YtjepcfpkclegdaaGreat
