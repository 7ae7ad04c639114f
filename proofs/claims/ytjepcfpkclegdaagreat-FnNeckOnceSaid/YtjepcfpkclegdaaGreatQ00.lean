/- Part 41: contracts of functions, plain facts. -/
import Derived.Test.YtjepcfpkclegdaaGreatP40
set_option linter.unusedVariables false
set_option linter.unusedSimpArgs false
set_option maxRecDepth 100000
set_option maxHeartbeats 4000000
namespace Go.Proofs.YtjepcfpkclegdaaGreat
open Go Go.RowKit
attribute [local irreducible] wpList Code.wp Ok
theorem agZ {w:aE} (h:Inv w) {i:Nat} (hi:i<4) {d:au} (hd:d∈(sv w i).bl):(dU (bI w ((i/2:Nat):Int)) d).isSome=true:=by
 obtain⟨u,e,hu⟩:=h.bl i hi d hd
 rw[<-e,ze h (by omega) hu];rfl
theorem R7 {l:List aB} {d:au} (h:(dU l d).isSome=true):Fn Tryz.prog 29 [bX l,AV.int d.key,d.aq.av] (AV.dx [((dU l d).getD default).av,AV.bool true]):=by
 have:=Da l d.key d.aq
 rw[show(⟨d.key,d.aq⟩:au)=d from rfl,h] at this;exact this
theorem SF (code:List UInt8):
 Fn Tryz.prog 10 [bE code] (AV.bool true):=by
 refine Fn.go 73 Tryz.func10 Tryz.ntmps10 (λW I a U=>?_)
 have hle:=U.cW (t:=0) rfl
 refine aU λI a w U=>?_
 refine cz (λae=>?_) λae=>?_
 ·refine ai λI a w U=>?_
  refine U.rt ?_
  rfl
 ·refine bH λI a w U=>?_
  refine U.cG [] (nU code (by omega)) (aw .r aL) rfl (by decide) rfl λl I a w Rm U=>?_
  refine aF λI a w U=>?_
  refine U.o (.cl (nT l)) λU=>?_
  refine U.alloc rfl df dz λb4 I a w U=>?_
  refine ai λI a w U=>?_
  obtain⟨I,U⟩:=U.fb 0 4
  refine U.m λU=>?_
  refine U.o (.cl (mj l)) λU=>?_
  refine U.alloc rfl df dz λb5 I a w U=>?_
  refine ai λI a w U=>?_
  obtain⟨I,U⟩:=U.fb 1 5
  refine aF λI a w U=>?_
  refine U.o (.c2 (mG (ba l) (mI _))) λU=>?_
  refine ai λI a w U=>?_
  refine U.cd (λah=>?_) λah=>?_
  ·exfalso;simp at ah
   skip
  ·refine wp_skip<|aY<|wp_seq<|wp_seq ?_
   obtain⟨hI,hT⟩:=iQ l
   have lr:=lT l
   have ec:=hI.aW
   have lD:=rn l
   have dC:=qc l
   have sZ:=ec.small.2.2.1.1
   refine ai λI a w U=>?_
   have U:=U.drop 0
   refine St.lo (σ:=Nat) (2::(run 5 6 (run 49 24 []))) ⟨λi=>[(6,AV.int i)],λi=>[],λi=>i<=(ba l).ax.length⟩ (λi=>(ba l).ax.length-i) 0 U ?aJ ?aK
   case aJ=>exact Nat.zero_le _
   case aK=>
    rintro i I a w aj U
    have uv:i<=(ba l).ax.length:=aj
    refine ck λI a w U=>?_
    refine cz (λal=>?_) λal=>?_
    ·refine aF λI a w U=>?_
     refine U.o (tf .tt .c (λ_=>by omega)) λU=>?_
     rw[show((i:Int)/2)=((i/2:Nat):Int) from by omega] at U
     refine U.o (bY (p9 (ba l) ((i/2:Nat):Int) lr (by omega)) (aw (.t rfl) (aw (.t rfl) aL))) λU=>?_
     refine ai λI a w U=>?_
     obtain⟨-,-,-,-,lV⟩:=(ec.site i (by omega)).2.small
     refine ai λI a w U=>?_
     have U:=U.drop 0
     refine St.lo (σ:=Nat) (2::(run 3 8 (run 38 35 []))) ⟨λk=>[(8,AV.int k)],λk=>[],λk=>k<=(ab (ba l).ax i).bl.length⟩ (λk=>(ab (ba l).ax i).bl.length-k) 0 U ?cU ?cV
     case cU=>exact Nat.zero_le _
     case cV=>
      rintro k I a w aj U
      have m5:k<=(ab (ba l).ax i).bl.length:=aj
      refine mA λI a w U=>?_
      refine cz (λaH=>?_) λaH=>?_
      ·refine zt ?_
       have U:=U.fT
       refine U.eo [([],none),([],none),([],none),([],none),([],none),([],none),([],none),([],none),([],none),([],none),([],none),([],none),([],none),([],none),([],none),([],none),([],none),([],none),([],none),([],none),([],none),([],none),([],none),([],none),([],none),([0],some (0,[9])),([0],some (0,[9])),([],none)] (by kernel_rfl) (by kernel_rfl) rfl ?_
       refine lG ?_
       refine fi ?_
       refine .o (bY (R7 (agZ hI (i:=i) (by omega) (aV aH))) (aw .r (aw (.t rfl) (aw (.t rfl) aL)))) ?_
       refine cD ?_
       refine aS.alloc 0 rfl rfl bA dE<|aS.mz 0 rfl bA rfl .tt rfl rfl ?_
       refine bn ?_
       refine .nil ?_
       intro I a w U
       obtain⟨b9,U⟩:=U.lC (d:=9) 0 rfl rfl
       obtain⟨I,U⟩:=U.fb 0 9
       refine aA λI a w U=>?_
       refine U.cd (λaM=>?_) λaM=>?_
       ·exfalso;simp at aM
        skip
       ·refine aI λI a w U=>?_
        have U:=U.drop 0
        exact U.ag (k+1) (by show k+1<=_;omega)
      ·refine zt ?_
       refine aI λI a w U=>?_
       exact U.ag (i+1) (by show i+1<=_;omega)
    ·refine zt ?_
     refine ai λI a w U=>?_
     refine U.rt ?_
     rfl
end Go.Proofs.YtjepcfpkclegdaaGreat
