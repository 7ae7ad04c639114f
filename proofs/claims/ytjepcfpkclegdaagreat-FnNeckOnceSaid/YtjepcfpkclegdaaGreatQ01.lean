/- Part 42: contracts of functions, plain facts. -/
import Derived.Test.YtjepcfpkclegdaaGreatQ00
set_option linter.unusedVariables false
set_option linter.unusedSimpArgs false
set_option maxRecDepth 100000
set_option maxHeartbeats 4000000
namespace Go.Proofs.YtjepcfpkclegdaaGreat
open Go Go.RowKit
attribute [local irreducible] wpList Code.wp Ok
theorem JT {w:aE} (h:Inv w) {σ:Nat} (hσ:σ<2) {v:aB} (hv:v∈bI w (σ:Int)) {d:au} (hd:d∈v.aO):(dU (bI w (σ:Int)) d).isSome=true/\d.aq.time<v.aq.time:=by
 have hv:=(lS h hσ).1 hv
 obtain⟨u,e,hu⟩:=Ea h hv hd
 exact⟨by rw[<-e,ze h hσ hu];rfl,Pe (h.Bq hv) hd⟩
theorem Ez {x:aE} (aj:ey x=true) {s:Int} (uM:0<=s/\s<=1):(bI x s).length<=160:=by
 have la:=fV (vx aj (i:=(2*s).toNat) (by omega)).1
 have lb:=fV (vx aj (i:=(2*s+1).toNat) (by omega)).1
 have:=Aq (ab x.ax (2*s+1).toNat).ao (ab x.ax (2*s).toNat).ao
 unfold bI
 omega
theorem JU {w:aE} (h:Inv w) {σ:Nat} (hσ:σ<2) {v:aB} (hv:v∈bI w (σ:Int)):bN v.aO=true:=(jk (h.Bq ((lS h hσ).1 hv))).2.2
theorem SH (code:List UInt8):
 Fn Tryz.prog 11 [bE code] (AV.bool true):=by
 refine Fn.go 80 Tryz.func11 Tryz.ntmps11 (λW I a U=>?_)
 have hle:=U.cW (t:=0) rfl
 refine aU λI a w U=>?_
 refine cz (λae=>?_) λae=>?_
 ·refine ai λI a w U=>?_
  refine U.rt ?_
  rfl
 ·refine bH λI a w U=>?_
  refine U.cG [] (nU code (by omega)) (aw .r aL) rfl (by decide) rfl λl I a w R8 U=>?_
  refine aF λI a w U=>?_
  refine U.o (.cl (nT l)) λU=>?_
  refine U.alloc rfl df dz λb4 I a w U=>?_
  refine ai λI a w U=>?_
  obtain⟨I,U⟩:=U.fb 0 4
  refine U.m λU=>?_
  refine U.o (.cl (mj l)) λU=>?_
  refine U.alloc rfl df dz λb5 I a w U=>?_
  refine ai λI a w U=>?_
  obtain⟨I,U⟩:=U.fb 1 5
  refine aF λI a w U=>?_
  refine U.o (.c2 (mG (ba l) (mI _))) λU=>?_
  refine ai λI a w U=>?_
  refine U.cd (λah=>?_) λah=>?_
  ·exfalso;simp at ah
   skip
  ·refine wp_skip<|aY<|wp_seq<|wp_seq ?_
   obtain⟨hI,hT⟩:=iQ l
   have lr:=lT l
   have ec:=hI.aW
   have lD:=rn l
   have dC:=qc l
   have sZ:=ec.small.2.2.1.1
   refine ai λI a w U=>?_
   have U:=U.drop 0
   refine St.lo (σ:=Nat) (2::(run 7 6 (run 54 26 []))) ⟨λs=>[(6,AV.int s)],λs=>[],λs=>s<=2⟩ (λs=>2-s) 0 U ?aJ ?aK
   case aJ=>exact Nat.zero_le _
   case aK=>
    rintro s I a w aj U
    have eS:s<=2:=aj
    refine aA λI a w U=>?_
    refine nw (λal=>?_) λal=>?_
    ·have dC:s<2:=by omega
     refine aF λI a w U=>?_
     refine U.o (bY (p9 (ba l) s lr (by omega)) (aw (.t rfl) (aw (.t rfl) aL))) λU=>?_
     refine ai λI a w U=>?_
     have jX:=Ez lr (s:=(s:Int)) (by omega)
     refine ai λI a w U=>?_
     have U:=U.drop 0
     refine St.lo (σ:=Nat) (2::(run 5 8 (run 47 33 []))) ⟨λk=>[(8,AV.int k)],λk=>[],λk=>k<=(bI (ba l) s).length⟩ (λk=>(bI (ba l) s).length-k) 0 U ?cU ?cV
     case cU=>exact Nat.zero_le _
     case cV=>
      rintro k I a w aj U
      have m5:k<=(bI (ba l) s).length:=aj
      refine aU λI a w U=>?_
      refine cz (λaH=>?_) λaH=>?_
      ·refine wp_skip<|aY<|wp_seq<|wp_block<|wp_seq ?_
       have yT:=gR (JU hI (σ:=s) (by omega) (aV aH))
       refine ai λI a w U=>?_
       have U:=U.drop 0
       refine St.lo (σ:=Nat) (2::(run 4 9 (run 41 39 []))) ⟨λn=>[(9,AV.int n)],λn=>[],λn=>n<=(ab (bI (ba l) s) k).aO.length⟩ (λn=>(ab (bI (ba l) s) k).aO.length-n) 0 U ?fo ?fq
       case fo=>exact Nat.zero_le _
       case fq=>
        rintro n I a w aj U
        have qQ:n<=(ab (bI (ba l) s) k).aO.length:=aj
        refine ob λI a w U=>?_
        refine cz (λaM=>?_) λaM=>?_
        ·refine lE λI a w U=>?_
         refine U.alloc rfl cH fL λlN I a w U=>?_
         refine ai λI a w U=>?_
         obtain⟨I,U⟩:=U.fb 0 10
         refine bM λI a w U=>?_
         refine U.o (bY (R7 (JT hI (σ:=s) (by omega) (aV aH) (aV aM)).1) (aw .r (aw (.t rfl) (aw (.t rfl) aL)))) λU=>?_
         refine bk λI a w U=>?_
         refine U.alloc rfl bA dE λma I a w U=>?_
         refine U.sb 1 λU=>?_
         obtain⟨I,U⟩:=U.fb 1 11
         refine aA λI a w U=>?_
         refine U.cd (λbh=>?_) λbh=>?_
         ·exfalso;have h9:=(JT hI (σ:=s) (by omega) (aV aH) (aV aM)).2;simp at bh;omega
          skip
         ·refine aI λI a w U=>?_
          have U:=U.drop 0
          exact U.ag (n+1) (by show n+1<=_;omega)
        ·refine zt ?_
         refine aI λI a w U=>?_
         exact U.ag (k+1) (by show k+1<=_;omega)
      ·refine zt ?_
       refine aI λI a w U=>?_
       exact U.ag (s+1) (by show s+1<=_;omega)
    ·refine zt ?_
     refine ai λI a w U=>?_
     refine U.rt ?_
     rfl
end Go.Proofs.YtjepcfpkclegdaaGreat
