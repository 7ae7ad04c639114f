/- Part 43: contracts of functions, plain facts. -/
import Derived.Test.YtjepcfpkclegdaaGreatQ01
set_option linter.unusedVariables false
set_option linter.unusedSimpArgs false
set_option maxRecDepth 100000
set_option maxHeartbeats 4000000
namespace Go.Proofs.YtjepcfpkclegdaaGreat
open Go Go.RowKit
attribute [local irreducible] wpList Code.wp Ok
theorem R9 {w:aE} (h:Inv w) {σ:Nat} (hσ:σ<2) {d:au} {v:aB} (hv:dU (bI w (σ:Int)) d=some v):bU w σ v/\v.aT=d:=by
 have:=yS hv
 exact⟨(lS h hσ).1 this.1,this.2⟩
theorem ag0 {l:List au} (h:bN l=true) {d:au} (hd:d∈l):bx l d.key=d.aq:=by
 rcases yG (l:=l) (key:=d.key) with e|e
 ·exfalso
  have:∀{l:List au} {last:Int},dI last l=true->d∈l->bx l d.key=d.aq:=by
   intro l
   induction l with
   |nil=>intro _ _ hd;simp at hd
   |cons x r ih=>
    intro last hl hd
    have px:=hl
    simp only[dI,Bool.and_eq_true] at hl
    rw[lJ]
    rcases List.mem_cons.1 hd with rfl|hd
    ·rw[if_pos rfl]
    ·have:=(CL hl.2 d hd).1
     rw[if_neg (by omega)]
     exact ih hl.2 hd
  rw[this h hd] at e
  have:=pe h hd
  simp only[lh,Bool.and_eq_true] at this
  have:=om this.2
  rw[e] at this;simp[eV] at this
 ·exact(HC h e hd rfl)▸rfl
theorem ag1 {w:aE} (h:Inv w) {σ:Nat} (hσ:σ<2) {v u:aB} (hv:v∈bI w (σ:Int)) {d e:au} (hd:d∈v.aO) (hu:dU (bI w (σ:Int)) d=some u) (he:e∈u.aO):bP (bx v.aO e.key) e.aq=false:=by
 have hv:=(lS h hσ).1 hv
 obtain⟨u1,u2⟩:=R9 h hσ hu
 obtain⟨x,x1,x2,x3⟩:=Je h hv d hd
 have:=h.uniq _ _ x u x1 u1 (x2.trans u2.symm)
 subst this
 have:=x3 e.key
 rwa[ag0 (jk (h.Bq u1)).2.2 he] at this
theorem SA (code:List UInt8):
 Fn Tryz.prog 12 [bE code] (AV.bool true):=by
 refine Fn.go 98 Tryz.func12 Tryz.ntmps12 (λW I a U=>?_)
 have hle:=U.cW (t:=0) rfl
 refine aU λI a w U=>?_
 refine cz (λae=>?_) λae=>?_
 ·refine ai λI a w U=>?_
  refine U.rt ?_
  rfl
 ·refine bH λI a w U=>?_
  refine U.cG [] (nU code (by omega)) (aw .r aL) rfl (by decide) rfl λl I a w R8 U=>?_
  refine aF λI a w U=>?_
  refine U.o (.cl (nT l)) λU=>?_
  refine U.alloc rfl df dz λb4 I a w U=>?_
  refine ai λI a w U=>?_
  obtain⟨I,U⟩:=U.fb 0 4
  refine U.m λU=>?_
  refine U.o (.cl (mj l)) λU=>?_
  refine U.alloc rfl df dz λb5 I a w U=>?_
  refine ai λI a w U=>?_
  obtain⟨I,U⟩:=U.fb 1 5
  refine aF λI a w U=>?_
  refine U.o (.c2 (mG (ba l) (mI _))) λU=>?_
  refine ai λI a w U=>?_
  refine U.cd (λah=>?_) λah=>?_
  ·exfalso;simp at ah
   skip
  ·refine wp_skip<|aY<|wp_seq<|wp_seq ?_
   obtain⟨hI,hT⟩:=iQ l
   have lr:=lT l
   have ec:=hI.aW
   have lD:=rn l
   have dC:=qc l
   have sZ:=ec.small.2.2.1.1
   refine ai λI a w U=>?_
   have U:=U.drop 0
   refine St.lo (σ:=Nat) (2::(run 7 6 (run 72 26 []))) ⟨λs=>[(6,AV.int s)],λs=>[],λs=>s<=2⟩ (λs=>2-s) 0 U ?aJ ?aK
   case aJ=>exact Nat.zero_le _
   case aK=>
    rintro s I a w aj U
    have eS:s<=2:=aj
    refine aA λI a w U=>?_
    refine nw (λal=>?_) λal=>?_
    ·have dC:s<2:=by omega
     refine aF λI a w U=>?_
     refine U.o (bY (p9 (ba l) s lr (by omega)) (aw (.t rfl) (aw (.t rfl) aL))) λU=>?_
     refine ai λI a w U=>?_
     have jX:=Ez lr (s:=(s:Int)) (by omega)
     refine ai λI a w U=>?_
     have U:=U.drop 0
     refine St.lo (σ:=Nat) (2::(run 5 8 (run 65 33 []))) ⟨λk=>[(8,AV.int k)],λk=>[],λk=>k<=(bI (ba l) s).length⟩ (λk=>(bI (ba l) s).length-k) 0 U ?cU ?cV
     case cU=>exact Nat.zero_le _
     case cV=>
      rintro k I a w aj U
      have m5:k<=(bI (ba l) s).length:=aj
      refine aU λI a w U=>?_
      refine cz (λaH=>?_) λaH=>?_
      ·refine wp_skip<|aY<|wp_seq<|wp_block<|wp_seq ?_
       have yT:=gR (JU hI (σ:=s) (by omega) (aV aH))
       refine ai λI a w U=>?_
       have U:=U.drop 0
       refine St.lo (σ:=Nat) (2::(run 4 9 (run 59 39 []))) ⟨λn=>[(9,AV.int n)],λn=>[],λn=>n<=(ab (bI (ba l) s) k).aO.length⟩ (λn=>(ab (bI (ba l) s) k).aO.length-n) 0 U ?fo ?fq
       case fo=>exact Nat.zero_le _
       case fq=>
        rintro n I a w aj U
        have qQ:n<=(ab (bI (ba l) s) k).aO.length:=aj
        refine ob λI a w U=>?_
        refine cz (λaM=>?_) λaM=>?_
        ·refine zt ?_
         obtain⟨u,hu⟩:=Option.isSome_iff_exists.1 (JT hI (σ:=s) (by omega) (aV aH) (aV aM)).1
         have hdk:=JU hI (σ:=s) (by omega) (aV aH)
         have hul:=gR (jk (hI.Bq (R9 hI (σ:=s) (by omega) hu).1)).2.2
         have U:=U.fT
         refine U.eo [([],none),([],none),([],none),([],none),([],none),([],none),([],none),([],none),([],none),([],none),([],none),([],none),([],none),([],none),([],none),([],none),([],none),([],none),([],none),([],none),([],none),([],none),([],none),([0],some (0,[10])),([0],some (0,[10])),([],none)] (by kernel_rfl) (by kernel_rfl) rfl ?_
         refine lG ?_
         refine cD ?_
         refine .o (bY (G9 hu) (aw .r (aw .tt (aw .tt aL)))) ?_
         refine cD ?_
         refine aS.alloc 0 rfl rfl bA dE<|aS.mz 0 rfl bA rfl .tt rfl rfl ?_
         refine bn ?_
         refine .nil ?_
         intro I a w U
         obtain⟨lN,U⟩:=U.lC (d:=10) 0 rfl rfl
         obtain⟨I,U⟩:=U.fb 0 10
         refine ai λI a w U=>?_
         have U:=U.drop 0
         refine St.lo (σ:=Nat) (2::(12::(run 26 72 []))) ⟨λm=>[(12,AV.int m)],λm=>[],λm=>m<=u.aO.length⟩ (λm=>u.aO.length-m) 0 U ?q8 ?q9
         case q8=>exact Nat.zero_le _
         case q9=>
          rintro m I a w aj U
          have II:m<=u.aO.length:=aj
          refine ck λI a w U=>?_
          refine cz (λbh=>?_) λbh=>?_
          ·refine zt ?_
           refine U.dk ?_
           refine Af ?_
           refine .o (.cl (xp _ _ hdk)) ?_
           refine fK ?_
           refine .o (.c2 (rU ..))<|.nil ?_
           intro I a w U
           refine aY ?_
           refine U.cd (λaZ=>?_) λaZ=>?_
           ·exfalso;rw[ag1 hI (σ:=s) (by omega) (aV aH) (aV aM) hu (aV bh)] at aZ;cases aZ
            skip
           ·refine aI λI a w U=>?_
            exact U.ag (m+1) (by show m+1<=_;omega)
          ·refine zt ?_
           refine aI λI a w U=>?_
           exact U.ag (n+1) (by show n+1<=_;omega)
        ·refine zt ?_
         refine aI λI a w U=>?_
         exact U.ag (k+1) (by show k+1<=_;omega)
      ·refine zt ?_
       refine aI λI a w U=>?_
       exact U.ag (s+1) (by show s+1<=_;omega)
    ·refine zt ?_
     refine ai λI a w U=>?_
     refine U.rt ?_
     rfl
end Go.Proofs.YtjepcfpkclegdaaGreat
