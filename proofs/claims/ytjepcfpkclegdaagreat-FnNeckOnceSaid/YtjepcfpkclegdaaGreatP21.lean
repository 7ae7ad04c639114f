/- Part 21: contracts of functions, plain facts. -/
import Derived.Test.YtjepcfpkclegdaaGreatP11
import Derived.Test.YtjepcfpkclegdaaGreatP13
set_option linter.unusedVariables false
set_option linter.unusedSimpArgs false
set_option maxRecDepth 100000
set_option maxHeartbeats 4000000
namespace Go.Proofs.YtjepcfpkclegdaaGreat
open Go Go.RowKit
attribute [local irreducible] wpList Code.wp Ok
theorem Q5 (l:List Call) (time:Int) (ht:time<=4611686018427387904) (hl:l.length<=1048576) (bB:∀q∈l,gh q.an):
 Fn Tryz.prog 93 [bK l,AV.int time] (AV.bool (jq l time)):=by
 refine Fn.go 86 Tryz.func93 Tryz.ntmps93 (λW I a U=>?_)
 refine ai λI a w U=>?_
 refine U.makeMap rfl Dj λlN a w U=>?_
 rw[show(λ_:Int=>(0:Int))=gn l 0 from(GK l).symm] at U
 refine aU λI a w U=>?_
 refine St.lo (σ:=Nat) (4::(run 2 6 (9::(run 70 13 [])))) ⟨λk=>[(13,AV.int k)],λk=>[Own.rO Tryz.prog 3 3 (λx:Int=>Lit.int .i64 x) (λx:Int=>.lit (.int .i64 x)) 0 lN (k) (gn l (k))],λk=>k<=l.length/\∀i,i<k->(m9 l time) i=true⟩ (λk=>l.length-k) 0 U ?aJ ?aK
 case aJ=>exact⟨Nat.zero_le _,λi hi=>by omega⟩
 case aK=>
  rintro k I a w aj U
  obtain⟨o1,aN⟩:=aj
  refine ai λI a w U=>?_
  refine cz (λae=>?_) λae=>?_
  ·refine bk λI a w U=>?_
   refine U.alloc rfl dQ gD λb7 I a w U=>?_
   refine aA λI a w U=>?_
   obtain⟨I,U⟩:=U.fb 1 7
   refine bk λI a w U=>?_
   refine U.o (FK 0 Dj .tt (FL ny .tt (bB _ (aV ae))) rfl) λU=>?_
   refine U.o (kS .tt .c (λ_=>by have:=CU l k (ab l k).an;omega)) λU=>?_
   refine U.mapUpdate 0 Dj .tt (FL ny .tt (bB _ (aV ae))) .tt (by have:=CU l k (ab l k).an;omega) (by omega) rfl λa w U=>?_
   rw[Xn ae] at U
   refine nn<|wp_seq<|wp_seq<|U.dk ?_
   refine bT ?_
   refine .o (.c2 (Du _ _ ht)) ?_
   refine lG ?_
   refine fK ?_
   refine .q .F (FK 0 Dj .ag (FL ny .ag (bB _ (aV ae))) rfl) ?_
   refine bT ?_
   refine .nil ?_
   intro I a w U
   refine aY ?_
   refine U.cd (λah=>?_) λah=>?_
   ·rw[PL] at ah;replace ah:=nt ah
    refine ai λI a w U=>?_
    refine U.rt ?_
    exact bG (by unfold jq;rw[eB (f:=m9 l time) ae (by unfold m9;rw[ah];rfl)];rfl)
   ·rw[PL] at ah;replace ah:=nf ah
    refine aF λI a w U=>?_
    refine U.o (te mB dQ .r .tt (λ_=>by rw[List.length_map];omega)) λU=>?_
    rw[<-List.map_take,Int.toNat_natCast] at U
    have jS:(l.take k).length=k:=by simp;omega
    refine aA λI a w U=>?_
    refine St.lo (σ:=Nat) (4::(9::(run 27 55 []))) ⟨λk2=>[(55,AV.int k2)],λk2=>[Own.rO Tryz.prog 3 3 (λx:Int=>Lit.int .i64 x) (λx:Int=>.lit (.int .i64 x)) 0 lN (k+1) (gn l (k+1)),Own.gone],λk2=>k2<=k/\∀i,i<k2->(λj=>!mD (ab l j) (ab l k)) i=true⟩ (λk2=>k-k2) 0 U ?cU ?cV
    case cU=>exact⟨Nat.zero_le _,λi hi=>by omega⟩
    case cV=>
     rintro k2 I a w aj U
     obtain⟨xh,jC⟩:=aj
     refine ai λI a w U=>?_
     refine cz (λal=>?_) λal=>?_
     ·refine aF λI a w U=>?_
      refine U.alloc rfl dQ gD λb9 I a w U=>?_
      refine ai λI a w U=>?_
      obtain⟨I,U⟩:=U.fb 2 9
      refine UR λI a w U=>?_
      refine U.cd (λaH=>?_) λaH=>?_
      ·change mD (ab (l.take k) k2) (ab l k)=true at aH;rw[ME (by omega)] at aH
       refine ai λI a w U=>?_
       refine U.rt ?_
       exact bG (by unfold jq;rw[eB (f:=m9 l time) ae (by unfold m9;rw[eB (f:=λj=>!mD (ab l j) (ab l k)) (k:=k2) (by omega) (by rw[aH];rfl)];simp)];rfl)
      ·change mD (ab (l.take k) k2) (ab l k)=false at aH;rw[ME (by omega)] at aH
       refine aA λI a w U=>?_
       have U:=U.drop 2
       exact U.ag (k2+1) (⟨by omega,fg jC (by rw[aH];rfl)⟩)
     ·refine zt ?_
      refine aA λI a w U=>?_
      have U:=U.drop 1
      exact U.ag (k+1) (⟨by omega,fg aN (by unfold m9;rw[ah,eP jC (by omega)];rfl)⟩)
  ·refine zt ?_
   refine aU λI a w U=>?_
   refine U.rt ?_
   exact bG (by unfold jq;rw[eP aN (by omega),Wy];rfl)
end Go.Proofs.YtjepcfpkclegdaaGreat
