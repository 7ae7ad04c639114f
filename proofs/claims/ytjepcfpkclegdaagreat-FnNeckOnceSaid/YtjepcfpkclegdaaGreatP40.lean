/- Part 40: contracts of functions, plain facts. -/
import Derived.Test.YtjepcfpkclegdaaGreatP35
import Derived.Test.YtjepcfpkclegdaaGreatP38
import Derived.Test.YtjepcfpkclegdaaGreatP39
set_option linter.unusedVariables false
set_option linter.unusedSimpArgs false
set_option maxRecDepth 100000
set_option maxHeartbeats 4000000
namespace Go.Proofs.YtjepcfpkclegdaaGreat
open Go Go.RowKit
attribute [local irreducible] wpList Code.wp Ok
theorem R3 (x:aE) (e:Ev) (hg:cx x) (ht:x.time<=99999):
 Fn Tryz.prog 43 [x.av,e.av] (AV.dx [(fP x e).1.av,AV.bool (fP x e).2]):=by
 refine Fn.go 22 Tryz.func43 Tryz.ntmps43 (λW I a U=>?_)
 have zb:=hg.time
 refine aF λI a w U=>?_
 refine U.alloc rfl df dz λb4 I a w U=>?_
 refine aU λI a w U=>?_
 refine cz (λae=>?_) λae=>?_
 ·refine aI λI a w U=>?_
  refine U.ret rfl (.cons (.sx 0) (.cons (.t rfl) aX.nil)) ?_
  exact(by unfold fP;rw[if_neg (by omega)];rfl)
 ·refine bH λI a w U=>?_
  refine U.cG [] (P8 x hg.small) (aw .tt aL) rfl (by decide) rfl λ⟨s,r,q,z⟩ I a w R4 U=>?_
  unfold aE.Ob at U
  dsimp only at U
  have U:=U.nf
  refine U.alloc rfl df dz λb6 I a w U=>?_
  refine bM λI a w U=>?_
  refine U.s1 5 λU=>?_
  refine bH λI a w U=>?_
  refine U.cG [5,1,2,3,4] (agO b6 {x with time:=x.time+1} e s r q z hg.later (by show x.time+1<=_;omega)) (aw .tt (aw .tt aL)) rfl (by decide) rfl λu I a w Et U=>?_
  refine ai λI a w U=>?_
  refine cz (λah=>?_) λah=>?_
  ·rw[ah] at U
   have U:=U.nf
   refine aI λI a w U=>?_
   refine U.ret rfl (.cons (.sx 0) (.cons (.t rfl) aX.nil)) ?_
   exact(by unfold fP;rw[QI,if_neg (by rw[ah];simp)];rfl)
  ·rw[ah] at U
   unfold aE.full at U
   have U:=U.nf
   obtain⟨I,U⟩:=U.fu 1 1 5
   obtain⟨I,U⟩:=U.fu 2 2 5
   obtain⟨I,U⟩:=U.fu 3 3 5
   obtain⟨I,U⟩:=U.fu 4 4 5
   have U:=U.nf
   refine aI λI a w U=>?_
   refine U.ret rfl (.cons (.sx 0) (.cons (.t rfl) aX.nil)) ?_
   exact(by unfold fP;rw[QI,if_pos ⟨by omega,ah⟩];rfl)
theorem R5 (x:aE) (e:Ev) (hf:x.Fit) (hl:x.calls.length<=1048576):
 Fn Tryz.prog 27 [x.av,e.av] (AV.dx [(fQ x e).1.av,AV.bool (fQ x e).2]):=by
 refine Fn.go 21 Tryz.func27 Tryz.ntmps27 (λW I a U=>?_)
 refine aF λI a w U=>?_
 refine U.alloc rfl df dz λb4 I a w U=>?_
 refine aF λI a w U=>?_
 refine U.o (.c1 (D7 x hf hl)) λU=>?_
 refine ai λI a w U=>?_
 refine U.cd (λae=>?_) λae=>?_
 ·replace ae:=nt ae
  refine zt ?_
  refine U.o (.bd dz bf.nil) λU=>?_
  refine aA λI a w U=>?_
  refine U.ret rfl (.cons (.sx 0) (.cons (.t rfl) aX.nil)) ?_
  exact(by unfold fQ;rw[ae];rfl)
 ·replace ae:=nf ae;have hg:=ko.1 ae
  refine aF λI a w U=>?_
  refine U.o (.c2 (R3 x e hg.1 hg.2)) λU=>?_
  refine bk λI a w U=>?_
  refine U.alloc rfl df dz λb6 I a w U=>?_
  refine U.sb 1 λU=>?_
  obtain⟨I,U⟩:=U.fb 1 6
  refine aF λI a w U=>?_
  refine U.o (.c1 (P9 (fP x e).1 (ko.1 (Bn ae e)).1.small)) λU=>?_
  refine aI λI a w U=>?_
  refine U.ret rfl (.cons (.sx 0) (.cons (.t rfl) aX.nil)) ?_
  exact(by unfold fQ;rw[ae];rfl)
theorem mj (l:List Ev):
 Fn Tryz.prog 21 [AV.rows 11 (l.map Ev.cells)] ((ba l).av):=by
 refine Fn.go 26 Tryz.func21 Tryz.ntmps21 (λW I a U=>?_)
 have hle:=U.cW (t:=0) rfl
 refine sr<|U.alloc rfl df dz λb2 I a w U=>?_
 refine zt ?_
 refine U.o (.cl (Ql ..)) λU=>?_
 refine U.alloc rfl df dz λb3 I a w U=>?_
 refine aU λI a w U=>?_
 refine cz (λae=>?_) λae=>?_
 ·refine aA λI a w U=>?_
  refine U.ret rfl (.cons (.sx 0) aX.nil) ?_
  exact(by unfold ba;rw[if_pos (by omega)];rfl)
 ·refine aI λI a w U=>?_
  refine St.lo (σ:=Nat) (5::(run 11 13 [])) ⟨λk=>[(13,AV.int k)],λk=>[Own.box b2 30 [AV.val (.int .i64 0),AV.rows 7 [],AV.rows 15 [],AV.rows 13 [],AV.rows 1 []],Own.box b3 30 (wK l k).cells],λk=>k<=l.length⟩ (λk=>l.length-k) 0 U ?aJ ?aK
  case aJ=>exact Nat.zero_le _
  case aK=>
   rintro k I a w aj U
   have hk:k<=l.length:=aj
   have hg:=ko.1 (I4 l k)
   dsimp only at U
   refine ai λI a w U=>?_
   refine cz (λah=>?_) λah=>?_
   ·refine aF λI a w U=>?_
    refine U.alloc rfl iH kW λb5 I a w U=>?_
    refine ai λI a w U=>?_
    obtain⟨I,U⟩:=U.fb 2 5
    refine aF λI a w U=>?_
    refine U.o (.c2 (R3 (wK l k) (ab l k) hg.1 hg.2)) λU=>?_
    refine jj λI a w U=>?_
    have U:=U.drop 2
    rw[adI ah] at U
    exact U.ag (k+1) (ah)
   ·refine zt ?_
    refine U.o (.ls 1) λU=>U.o (.c1 (P9 (wK l k) hg.1.small)) λU=>?_
    refine ai λI a w U=>?_
    refine U.ret rfl (.cons (.sx 0) aX.nil) ?_
    exact(by rw[QJ (by omega) (by omega)];rfl)
theorem SI (code:List UInt8):
 Fn Tryz.prog 3 [bE code] (AV.bool true):=by
 refine Fn.go 89 Tryz.func3 Tryz.ntmps3 (λW I a U=>?_)
 have hle:=U.cW (t:=0) rfl
 refine aU λI a w U=>?_
 refine cz (λae=>?_) λae=>?_
 ·refine ai λI a w U=>?_
  refine U.rt ?_
  rfl
 ·refine bH λI a w U=>?_
  refine U.cG [] (nU code (by omega)) (aw .r aL) rfl (by decide) rfl λl I a w sq U=>?_
  refine aF λI a w U=>?_
  refine U.o (.cl (nT l)) λU=>?_
  refine U.alloc rfl df dz λb4 I a w U=>?_
  refine ai λI a w U=>?_
  obtain⟨I,U⟩:=U.fb 0 4
  refine U.m λU=>?_
  refine U.o (.cl (mj l)) λU=>?_
  refine U.alloc rfl df dz λb5 I a w U=>?_
  refine ai λI a w U=>?_
  obtain⟨I,U⟩:=U.fb 1 5
  refine aF λI a w U=>?_
  refine U.o (.c2 (mG (ba l) (mI _))) λU=>?_
  refine ai λI a w U=>?_
  refine U.cd (λah=>?_) λah=>?_
  ·exfalso;simp at ah
   skip
  ·refine wp_skip<|aY<|wp_seq<|wp_seq ?_
   obtain⟨hI,hT⟩:=iQ l
   have aj:=lT l
   have ec:=hI.aW
   have lD:=rn l
   have dC:=qc l
   have sZ:=ec.small.2.2.1.1
   refine ai λI a w U=>?_
   have U:=U.drop 0
   refine St.lo (σ:=Nat) (2::(run 4 6 (run 66 23 []))) ⟨λi=>[(6,AV.int i)],λi=>[],λi=>i<=(ba l).calls.length⟩ (λi=>(ba l).calls.length-i) 0 U ?aJ ?aK
   case aJ=>exact Nat.zero_le _
   case aK=>
    rintro i I a w aj U
    have uv:i<=(ba l).calls.length:=aj
    refine ck λI a w U=>?_
    refine cz (λal=>?_) λal=>?_
    ·refine ai λI a w U=>?_
     have U:=U.drop 0
     refine St.lo (σ:=Nat) (2::(run 3 7 (run 59 30 []))) ⟨λk=>[(7,AV.int k)],λk=>[],λk=>k<=i⟩ (λk=>i-k) 0 U ?cU ?cV
     case cU=>exact Nat.zero_le _
     case cV=>
      rintro k I a w aj U
      have m5:k<=i:=aj
      refine aI λI a w U=>?_
      refine cz (λaH=>?_) λaH=>?_
      ·refine bM λI a w U=>?_
       refine U.alloc rfl dQ gD λb8 I a w U=>?_
       refine ai λI a w U=>?_
       obtain⟨I,U⟩:=U.fb 0 8
       refine bM λI a w U=>?_
       refine U.alloc rfl dQ gD λb9 I a w U=>?_
       refine ai λI a w U=>?_
       obtain⟨I,U⟩:=U.fb 1 9
       have kg:=(ec.call (i:=k) (by omega)).D3
       have eD:=(ec.call al).D3
       refine U.dk ?_
       refine lG ?_
       refine wv ?_
       refine .q .T (dS (i:=0) ju gO .ag .c (λhg=>by omega)) ?_
       refine cD ?_
       refine .q .T (dS (i:=0) ju gO .ag .c (λhg=>by omega)) ?_
       refine nx ?_
       refine .q .T (.cl (rU ..)) ?_
       refine bT ?_
       refine .nil ?_
       intro I a w U
       refine aY ?_
       refine U.cd (λaM=>?_) λaM=>?_
       ·exfalso;simp only[B] at aM;obtain⟨⟨⟨⟨⟨⟨h1,h2⟩,h3⟩,h4⟩,h5⟩,h6⟩,h7⟩:=aM;rw[agM hI aH al h1 h2 h3 (by omega) (by omega) h6] at h7;cases h7
        skip
       ·refine aI λI a w U=>?_
        have U:=U.drop 0
        exact U.ag (k+1) (by show k+1<=_;omega)
      ·refine zt ?_
       refine aI λI a w U=>?_
       exact U.ag (i+1) (by show i+1<=_;omega)
    ·refine zt ?_
     refine ai λI a w U=>?_
     refine U.rt ?_
     rfl
theorem SK (code:List UInt8):
 Fn Tryz.prog 4 [bE code] (AV.bool true):=by
 refine Fn.go 106 Tryz.func4 Tryz.ntmps4 (λW I a U=>?_)
 have hle:=U.cW (t:=0) rfl
 refine aU λI a w U=>?_
 refine cz (λae=>?_) λae=>?_
 ·refine ai λI a w U=>?_
  refine U.rt ?_
  rfl
 ·refine bH λI a w U=>?_
  refine U.cG [] (nU code (by omega)) (aw .r aL) rfl (by decide) rfl λl I a w Bx U=>?_
  refine aF λI a w U=>?_
  refine U.o (.cl (nT l)) λU=>?_
  refine U.alloc rfl df dz λb4 I a w U=>?_
  refine ai λI a w U=>?_
  obtain⟨I,U⟩:=U.fb 0 4
  refine U.m λU=>?_
  refine U.o (.cl (mj l)) λU=>?_
  refine U.alloc rfl df dz λb5 I a w U=>?_
  refine ai λI a w U=>?_
  obtain⟨I,U⟩:=U.fb 1 5
  refine aF λI a w U=>?_
  refine U.o (.c2 (mG (ba l) (mI _))) λU=>?_
  refine ai λI a w U=>?_
  refine U.cd (λah=>?_) λah=>?_
  ·exfalso;simp at ah
   skip
  ·refine wp_skip<|aY<|wp_seq<|wp_seq ?_
   obtain⟨hI,hT⟩:=iQ l
   have aj:=lT l
   have ec:=hI.aW
   have lD:=rn l
   have dC:=qc l
   have sZ:=ec.small.2.2.1.1
   refine ai λI a w U=>?_
   have U:=U.drop 0
   refine St.lo (σ:=Nat) (2::(run 6 6 (run 81 25 []))) ⟨λi=>[(6,AV.int i)],λi=>[],λi=>i<=(ba l).calls.length⟩ (λi=>(ba l).calls.length-i) 0 U ?aJ ?aK
   case aJ=>exact Nat.zero_le _
   case aK=>
    rintro i I a w aj U
    have uv:i<=(ba l).calls.length:=aj
    refine ck λI a w U=>?_
    refine cz (λal=>?_) λal=>?_
    ·refine ai λI a w U=>?_
     have U:=U.drop 0
     refine St.lo (σ:=Nat) (2::(run 5 7 (run 74 32 []))) ⟨λk=>[(7,AV.int k)],λk=>[],λk=>k<=i⟩ (λk=>i-k) 0 U ?cU ?cV
     case cU=>exact Nat.zero_le _
     case cV=>
      rintro k I a w aj U
      have m5:k<=i:=aj
      refine aI λI a w U=>?_
      refine cz (λaH=>?_) λaH=>?_
      ·refine bM λI a w U=>?_
       refine U.alloc rfl dQ gD λb8 I a w U=>?_
       refine ai λI a w U=>?_
       obtain⟨I,U⟩:=U.fb 0 8
       refine bM λI a w U=>?_
       refine U.alloc rfl dQ gD λb9 I a w U=>?_
       refine ai λI a w U=>?_
       obtain⟨I,U⟩:=U.fb 1 9
       refine UQ λI a w U=>?_
       refine Cl (λaM=>?_) λaM=>?_
       ·refine zt ?_
        refine aI λI a w U=>?_
        have U:=U.drop 0
        exact U.ag (k+1) (by show k+1<=_;omega)
       ·obtain⟨⟨h1,h2⟩,h3⟩:=aM
        refine wp_skip<|aY<|wp_seq ?_
        have amm:=(ec.call (i:=k) (by omega)).lens
        have amn:=(ec.call al).lens
        refine ai λI a w U=>?_
        have U:=U.drop 0
        refine St.lo (σ:=Nat) (2::(run 2 10 (run 44 62 []))) ⟨λn=>[(10,AV.int n)],λn=>[],λn=>n<=(ab (ba l).calls k).az.length⟩ (λn=>(ab (ba l).calls k).az.length-n) 0 U ?fo ?fq
        case fo=>exact Nat.zero_le _
        case fq=>
         rintro n I a w aj U
         have qQ:n<=(ab (ba l).calls k).az.length:=aj
         refine ck λI a w U=>?_
         refine cz (λbh=>?_) λbh=>?_
         ·refine ai λI a w U=>?_
          have U:=U.drop 0
          refine St.lo (σ:=Nat) (2::(11::(run 37 69 []))) ⟨λm=>[(11,AV.int m)],λm=>[],λm=>m<=(ab (ba l).calls i).az.length⟩ (λm=>(ab (ba l).calls i).az.length-m) 0 U ?q8 ?q9
          case q8=>exact Nat.zero_le _
          case q9=>
           rintro m I a w aj U
           have II:m<=(ab (ba l).calls i).az.length:=aj
           refine ck λI a w U=>?_
           refine cz (λaZ=>?_) λaZ=>?_
           ·refine zt ?_
            refine U.dk ?_
            refine lG ?_
            refine wv ?_
            refine .q .T (.cl (rU ..)) ?_
            refine bn ?_
            refine .nil ?_
            intro I a w U
            refine aY ?_
            refine U.cd (λbV=>?_) λbV=>?_
            ·exfalso;simp only[B] at bV;obtain⟨h4,h5⟩:=bV;rw[agK hI aH al h1 h2 (aV bh) (aV aZ) h4] at h5;cases h5
             skip
            ·refine aI λI a w U=>?_
             exact U.ag (m+1) (by show m+1<=_;omega)
           ·refine zt ?_
            refine aI λI a w U=>?_
            exact U.ag (n+1) (by show n+1<=_;omega)
         ·refine zt ?_
          refine aI λI a w U=>?_
          exact U.ag (k+1) (by show k+1<=_;omega)
      ·refine zt ?_
       refine aI λI a w U=>?_
       exact U.ag (i+1) (by show i+1<=_;omega)
    ·refine zt ?_
     refine ai λI a w U=>?_
     refine U.rt ?_
     rfl
theorem SJ (code:List UInt8):
 Fn Tryz.prog 5 [bE code] (AV.bool true):=by
 refine Fn.go 81 Tryz.func5 Tryz.ntmps5 (λW I a U=>?_)
 have hle:=U.cW (t:=0) rfl
 refine aU λI a w U=>?_
 refine cz (λae=>?_) λae=>?_
 ·refine ai λI a w U=>?_
  refine U.rt ?_
  rfl
 ·refine bH λI a w U=>?_
  refine U.cG [] (nU code (by omega)) (aw .r aL) rfl (by decide) rfl λl I a w Rm U=>?_
  refine aF λI a w U=>?_
  refine U.o (.cl (nT l)) λU=>?_
  refine U.alloc rfl df dz λb4 I a w U=>?_
  refine ai λI a w U=>?_
  obtain⟨I,U⟩:=U.fb 0 4
  refine U.m λU=>?_
  refine U.o (.cl (mj l)) λU=>?_
  refine U.alloc rfl df dz λb5 I a w U=>?_
  refine ai λI a w U=>?_
  obtain⟨I,U⟩:=U.fb 1 5
  refine aF λI a w U=>?_
  refine U.o (.c2 (mG (ba l) (mI _))) λU=>?_
  refine ai λI a w U=>?_
  refine U.cd (λah=>?_) λah=>?_
  ·exfalso;simp at ah
   skip
  ·refine wp_skip<|aY<|wp_seq<|wp_seq ?_
   obtain⟨hI,hT⟩:=iQ l
   have aj:=lT l
   have ec:=hI.aW
   have lD:=rn l
   have dC:=qc l
   have sZ:=ec.small.2.2.1.1
   refine ai λI a w U=>?_
   have U:=U.drop 0
   refine St.lo (σ:=Nat) (2::(run 5 6 (run 57 24 []))) ⟨λi=>[(6,AV.int i)],λi=>[],λi=>i<=(ba l).calls.length⟩ (λi=>(ba l).calls.length-i) 0 U ?aJ ?aK
   case aJ=>exact Nat.zero_le _
   case aK=>
    rintro i I a w aj U
    have uv:i<=(ba l).calls.length:=aj
    refine ck λI a w U=>?_
    refine cz (λal=>?_) λal=>?_
    ·refine bM λI a w U=>?_
     refine U.alloc rfl dQ gD λb7 I a w U=>?_
     refine ai λI a w U=>?_
     obtain⟨I,U⟩:=U.fb 0 7
     refine aI λI a w U=>?_
     refine cz (λaH=>?_) λaH=>?_
     ·refine zt ?_
      refine aI λI a w U=>?_
      have U:=U.drop 0
      exact U.ag (i+1) (by show i+1<=_;omega)
     ·refine wp_skip<|aY<|wp_seq ?_
      have si:=(ec.call al).lens
      refine ai λI a w U=>?_
      have U:=U.drop 0
      refine St.lo (σ:=Nat) (2::(run 3 8 (run 42 39 []))) ⟨λk=>[(8,AV.int k)],λk=>[],λk=>k<=(ab (ba l).calls i).az.length⟩ (λk=>(ab (ba l).calls i).az.length-k) 0 U ?cU ?cV
      case cU=>exact Nat.zero_le _
      case cV=>
       rintro k I a w aj U
       have m5:k<=(ab (ba l).calls i).az.length:=aj
       refine ck λI a w U=>?_
       refine cz (λaM=>?_) λaM=>?_
       ·refine bM λI a w U=>?_
        refine U.alloc rfl fj od λb9 I a w U=>?_
        refine ai λI a w U=>?_
        obtain⟨I,U⟩:=U.fb 0 9
        refine U.dk ?_
        refine lF ?_
        refine .o (.cl (xp _ _ (ec.call al).ctx)) ?_
        refine .o (.c2 (rU ..))<|.nil ?_
        intro I a w U
        refine aY ?_
        refine U.cd (λbh=>?_) λbh=>?_
        ·exfalso;rw[(hI.az _ (aV al)).ctx _ (aV aM)] at bh;cases bh
         skip
        ·refine ai λI a w U=>?_
         have U:=U.drop 0
         refine St.lo (σ:=Nat) (2::(10::(run 21 60 []))) ⟨λn=>[(10,AV.int n)],λn=>[],λn=>n<=(ab (ba l).calls i).az.length⟩ (λn=>(ab (ba l).calls i).az.length-n) 0 U ?fo ?fq
         case fo=>exact Nat.zero_le _
         case fq=>
          rintro n I a w aj U
          have qQ:n<=(ab (ba l).calls i).az.length:=aj
          refine ck λI a w U=>?_
          refine cz (λaZ=>?_) λaZ=>?_
          ·refine zt ?_
           refine U.dk ?_
           refine wv ?_
           refine .o (.cl (xp _ _ (pT ((ec.call al).aW _ (aV aZ))))) ?_
           refine .o (.c2 (rU ..))<|.nil ?_
           intro I a w U
           refine aY ?_
           refine U.cd (λbV=>?_) λbV=>?_
           ·exfalso;rw[Rt hI (aV al) aH (aV aM) (aV aZ)] at bV;cases bV
            skip
           ·refine aI λI a w U=>?_
            exact U.ag (n+1) (by show n+1<=_;omega)
          ·refine zt ?_
           refine aI λI a w U=>?_
           exact U.ag (k+1) (by show k+1<=_;omega)
       ·refine zt ?_
        refine aI λI a w U=>?_
        exact U.ag (i+1) (by show i+1<=_;omega)
    ·refine zt ?_
     refine ai λI a w U=>?_
     refine U.rt ?_
     rfl
theorem SL (code:List UInt8):
 Fn Tryz.prog 6 [bE code] (AV.bool true):=by
 refine Fn.go 63 Tryz.func6 Tryz.ntmps6 (λW I a U=>?_)
 have hle:=U.cW (t:=0) rfl
 refine aU λI a w U=>?_
 refine cz (λae=>?_) λae=>?_
 ·refine ai λI a w U=>?_
  refine U.rt ?_
  rfl
 ·refine bH λI a w U=>?_
  refine U.cG [] (nU code (by omega)) (aw .r aL) rfl (by decide) rfl λl I a w sq U=>?_
  refine aF λI a w U=>?_
  refine U.o (.cl (nT l)) λU=>?_
  refine U.alloc rfl df dz λb4 I a w U=>?_
  refine ai λI a w U=>?_
  obtain⟨I,U⟩:=U.fb 0 4
  refine U.m λU=>?_
  refine U.o (.cl (mj l)) λU=>?_
  refine U.alloc rfl df dz λb5 I a w U=>?_
  refine ai λI a w U=>?_
  obtain⟨I,U⟩:=U.fb 1 5
  refine aF λI a w U=>?_
  refine U.o (.c2 (mG (ba l) (mI _))) λU=>?_
  refine ai λI a w U=>?_
  refine U.cd (λah=>?_) λah=>?_
  ·exfalso;simp at ah
   skip
  ·refine wp_skip<|aY<|wp_seq<|wp_seq ?_
   obtain⟨hI,hT⟩:=iQ l
   have lr:=lT l
   have ec:=hI.aW
   have lD:=rn l
   have dC:=qc l
   have sZ:=ec.small.2.2.1.1
   refine ai λI a w U=>?_
   have U:=U.drop 0
   refine St.lo (σ:=Nat) (2::(run 4 6 (run 40 23 []))) ⟨λi=>[(6,AV.int i)],λi=>[],λi=>i<=(ba l).calls.length⟩ (λi=>(ba l).calls.length-i) 0 U ?aJ ?aK
   case aJ=>exact Nat.zero_le _
   case aK=>
    rintro i I a w aj U
    have uv:i<=(ba l).calls.length:=aj
    refine ck λI a w U=>?_
    refine cz (λal=>?_) λal=>?_
    ·refine bM λI a w U=>?_
     refine U.alloc rfl dQ gD λb7 I a w U=>?_
     refine ai λI a w U=>?_
     obtain⟨I,U⟩:=U.fb 0 7
     refine U.o .la λU=>?_
     refine U.o (bY (ac9 (ab (ba l).calls i) _ (ec.call al) (by omega)) (aw (.t rfl) aL)) λU=>?_
     refine ai λI a w U=>?_
     have bB:=ui ec (aV al)
     have R6:=aa1 (pZ.2 (ec.call al))
     refine ai λI a w U=>?_
     have U:=U.drop 0
     refine St.lo (σ:=Nat) (2::(9::(run 26 37 []))) ⟨λj=>[(9,AV.int j)],λj=>[],λj=>j<=6⟩ (λj=>6-j) 0 U ?cU ?cV
     case cU=>exact Nat.zero_le _
     case cV=>
      rintro j I a w aj U
      have HJ:j<=6:=aj
      refine aA λI a w U=>?_
      refine cz (λaH=>?_) λaH=>?_
      ·refine zt ?_
       refine U.dk ?_
       refine lF ?_
       refine .o (bY (xp _ _ (ec.jD _ (aV (l:=(ba l).seen) (k:=(ab (ba l).calls i).an.toNat) (by omega)))) (aw .r (aw (.t rfl) aL))) ?_
       refine bT ?_
       refine .o (.cl (xp _ _ R6)) ?_
       refine .o (.c2 (rU ..)) ?_
       refine cD ?_
       refine .q .F (.cl (xp _ _ R6)) ?_
       refine cD ?_
       refine .q .F (.cl (xp _ _ (ec.call al).ctx)) ?_
       refine .q .F (.cl (rU ..)) ?_
       refine bn ?_
       refine .nil ?_
       intro I a w U
       refine aY ?_
       refine U.cd (λaM=>?_) λaM=>?_
       ·exfalso;rw[(RT hI al (j:Int)).1,(RT hI al (j:Int)).2] at aM;cases aM
        skip
       ·refine aI λI a w U=>?_
        exact U.ag (j+1) (by show j+1<=_;omega)
      ·refine zt ?_
       refine aI λI a w U=>?_
       exact U.ag (i+1) (by show i+1<=_;omega)
    ·refine zt ?_
     refine ai λI a w U=>?_
     refine U.rt ?_
     rfl
theorem SG (code more:List UInt8):
 Fn Tryz.prog 7 [bE code,bE more] (AV.bool true):=by
 refine Fn.go 59 Tryz.func7 Tryz.ntmps7 (λW I a U=>?_)
 have hle:=U.cW (t:=0) rfl
 have agY:=U.cW (t:=1) rfl
 refine mA λI a w U=>?_
 refine U.cd (λae=>?_) λae=>?_
 ·refine ai λI a w U=>?_
  refine U.rt ?_
  rfl
 ·refine bH λI a w U=>?_
  refine U.cG [] (nU code (by simp only[Bool.or_eq_false_iff,decide_eq_false_iff_not] at ae;omega)) (aw .r aL) rfl (by decide) rfl λl I a w amo U=>?_
  refine aF λI a w U=>?_
  refine U.o (.cl (nT l)) λU=>?_
  refine U.alloc rfl df dz λb6 I a w U=>?_
  refine ai λI a w U=>?_
  obtain⟨I,U⟩:=U.fb 0 6
  refine aF λI a w U=>?_
  refine U.o (.cl (OV l more)) λU=>?_
  refine bk λI a w U=>?_
  refine U.o (te jL iH .r .tt (λ_=>by have:=C2 l more;simp only[List.length_map];omega)) λU=>?_
  rw[<-List.map_take] at U
  refine U.o (.cl (mj (l.take (jV l more).toNat))) λU=>?_
  refine U.alloc rfl df dz λb8 I a w U=>?_
  refine ai λI a w U=>?_
  have hci:=C2 l more
  rw[<-QN] at U
  refine aA λI a w U=>?_
  refine St.EO (σ:=Nat) (9::(run 20 30 [])) ⟨λk=>[(9,AV.int k)],λk=>[Own.gone,Own.box b8 30 (ra l (jV l more).toNat k).cells],λk=>(jV l more).toNat<=k/\k<=l.length/\(2000<l.length->k=(jV l more).toNat)⟩ (λk=>l.length-k) (jV l more).toNat U rfl ?aJ ?HI ?aK
  case aJ=>exact⟨Nat.le_refl _,by omega,λ_=>rfl⟩
  case HI=>exact(Env.dK rfl (by exact congrArg AV.int (by omega)) Env.le_nil)
  case aK=>
   rintro k I a w aj U
   obtain⟨Bc,kg,eD⟩:=aj
   have hg:=(ko.1 (agW l (jV l more).toNat k)).1
   dsimp only at U
   refine mA λI a w U=>?_
   refine nw (λah=>?_) λah=>?_
   ·obtain⟨h1,h2⟩:=ah
    refine zt ?_
    refine U.eo [([1],none),([],none),([],none),([],none),([],none),([],none),([],none),([],none),([],none),([1],some (1,[]))] (by kernel_rfl) (by kernel_rfl) rfl ?_
    refine .r [1] (.ls 1) ?_
    refine bT ?_
    refine .o ((by first|exact dS jL iH .tt .tt (λ_=>by exact h1)|exact fS jL iH .tt .tt (λ_=>by exact h1)|exact fZ jL iH .tt .tt (λ_=>by exact h1))) ?_
    refine bn ?_
    refine .o (.c2 (R5 (ra l (jV l more).toNat k) (ab l k) hg.Fit hg.small.2.2.1.1)) ?_
    refine cD ?_
    refine aS.iW (x:=AV.any) 1 (λF W0 I0 I a w Q U kk=>U.sb 1 λU=>kk _ _ _ U) ?_
    refine .nil ?_
    intro I a w U
    refine aI λI a w U=>?_
    rw[abU h1 Bc] at U
    exact U.ag (k+1) (⟨by omega,by omega,λh=>by omega⟩)
   ·simp only[B,Bool.and_eq_false_iff] at ah
    refine zt ?_
    rw[abW eD (by omega)] at U
    refine U.dk ?_
    refine bT ?_
    refine .o (.c2 (mG (ba l) (mI _))) ?_
    refine bT ?_
    refine .q .T (.cl (mj l)) ?_
    refine bn ?_
    refine .q .T (.cl (mG (ba l) (mI _))) ?_
    refine bT ?_
    refine .nil ?_
    intro I a w U
    refine zt ?_
    refine U.rt ?_
    rfl
theorem SB (code:List UInt8):
 Fn Tryz.prog 8 [bE code] (AV.bool true):=by
 refine Fn.go 63 Tryz.func8 Tryz.ntmps8 (λW I a U=>?_)
 have hle:=U.cW (t:=0) rfl
 refine aU λI a w U=>?_
 refine cz (λae=>?_) λae=>?_
 ·refine ai λI a w U=>?_
  refine U.rt ?_
  rfl
 ·refine bH λI a w U=>?_
  refine U.cG [] (nU code (by omega)) (aw .r aL) rfl (by decide) rfl λl I a w R4 U=>?_
  refine ai λI a w U=>?_
  refine U.l0 λxf I a w U=>?_
  refine aA λI a w U=>?_
  refine St.lo (σ:=Nat×Value) (run 2 4 (run 19 14 [])) ⟨λ⟨k,v⟩=>[(5,AV.int k),(4,AV.val v)],λ⟨k,v⟩=>[Own.row v 52 11 ((lf (l.take k)).map Ev.cells)],λ⟨k,v⟩=>k<=l.length⟩ (λ⟨k,v⟩=>l.length-k) (0,.slice (some ⟨xf,0,none⟩) 0 0) U ?aJ ?aK
  case aJ=>exact Nat.zero_le _
  case aK=>
   rintro⟨k,v⟩ I a w aj U
   have hk:k<=l.length:=aj
   dsimp only at U
   refine aU λI a w U=>?_
   refine cz (λah=>?_) λah=>?_
   ·refine jj λI a w U=>?_
    refine cz (λal=>?_) λal=>?_
    ·refine bM λI a w U=>?_
     refine U.o (.li [(ab l k).cells] L0 (.u .nil)) λU=>?_
     refine U.append 0 rfl jL iH rfl .tt .r rfl (by have:=WR l k;simp;omega) λRp a w U=>?_
     rw[WO ah al] at U
     refine aU λI a w U=>?_
     exact U.ag (k+1,Rp) (by show k+1<=_;omega)
    ·refine aI λI a w U=>?_
     rw[WQ ah al] at U
     exact U.ag (k+1,v) (by show k+1<=_;omega)
   ·refine wp_exit<|cN<|cN<|gw<|aY<|wp_seq ?_
    rw[List.take_of_length_le (by omega)] at U
    obtain⟨I,U⟩:=U.fr 0 4
    have hid:=agX l
    have dC:=qc (lf l)
    have e0:bI (ba (lf l)) 0=[]:=R2 hid (σ:=0) (by decide)
    have e1:bI (ba (lf l)) 1=[]:=R2 hid (σ:=1) (by decide)
    have s0:ab (ba (lf l)).seen 0=[]:=hid.seen _ (aV (by omega))
    have s1:ab (ba (lf l)).seen 1=[]:=hid.seen _ (aV (by omega))
    refine bH λI a w U=>?_
    refine U.o (.cl (nT (lf l))) λU=>?_
    refine U.alloc rfl df dz λb6 I a w U=>?_
    refine ai λI a w U=>?_
    obtain⟨I,U⟩:=U.fb 1 6
    refine U.m λU=>?_
    refine U.o (.cl (mj (lf l))) λU=>?_
    refine U.alloc rfl df dz λb7 I a w U=>?_
    refine ai λI a w U=>?_
    obtain⟨I,U⟩:=U.fb 2 7
    refine aF λI a w U=>?_
    refine U.o (.c2 (mG (ba (lf l)) (mI _))) λU=>?_
    refine ai λI a w U=>?_
    refine U.cd (λaH=>?_) λaH=>?_
    ·exfalso;simp at aH
     skip
    ·refine wp_skip<|aY<|wp_seq<|U.dk ?_
     refine bn ?_
     refine .o (bY (p9 (ba (lf l)) 0 (lT _) (by omega)) (aw (.t rfl) (aw .c aL))) ?_
     refine bT ?_
     refine .o (bY (p9 (ba (lf l)) 1 (lT _) (by omega)) (aw (.t rfl) (aw .c aL))) ?_
     refine bn ?_
     refine .o (kS .tt .tt (λ_=>by rw[e0,e1];simp)) ?_
     refine dq ?_
     refine .q .T (dS (i:=0) wx oc .ag .c (λhg=>by omega)) ?_
     refine dq ?_
     refine .q .T (dS (i:=1) wx oc .ag .c (λhg=>by omega)) ?_
     refine bT ?_
     refine .q .T (kS .ag .ag (λhg=>by rw[s0,s1];simp)) ?_
     refine cD ?_
     refine .nil ?_
     intro I a w U
     refine zt ?_
     refine U.rt ?_
     exact bG (by rw[e0,e1,s0,s1];rfl)
theorem Sx (code:List UInt8):
 Fn Tryz.prog 9 [bE code] (AV.bool true):=by
 refine Fn.go 67 Tryz.func9 Tryz.ntmps9 (λW I a U=>?_)
 have hle:=U.cW (t:=0) rfl
 refine aU λI a w U=>?_
 refine cz (λae=>?_) λae=>?_
 ·refine ai λI a w U=>?_
  refine U.rt ?_
  rfl
 ·refine bH λI a w U=>?_
  refine U.cG [] (nU code (by omega)) (aw .r aL) rfl (by decide) rfl λl I a w sq U=>?_
  refine aF λI a w U=>?_
  refine U.o (.cl (nT l)) λU=>?_
  refine U.alloc rfl df dz λb4 I a w U=>?_
  refine ai λI a w U=>?_
  obtain⟨I,U⟩:=U.fb 0 4
  refine U.m λU=>?_
  refine U.o (.cl (mj l)) λU=>?_
  refine U.alloc rfl df dz λb5 I a w U=>?_
  refine ai λI a w U=>?_
  obtain⟨I,U⟩:=U.fb 1 5
  refine aF λI a w U=>?_
  refine U.o (.c2 (mG (ba l) (mI _))) λU=>?_
  refine ai λI a w U=>?_
  refine U.cd (λah=>?_) λah=>?_
  ·exfalso;simp at ah
   skip
  ·refine wp_skip<|aY<|wp_seq<|wp_seq ?_
   obtain⟨hI,hT⟩:=iQ l
   have lr:=lT l
   have ec:=hI.aW
   have lD:=rn l
   have dC:=qc l
   have sZ:=ec.small.2.2.1.1
   refine ai λI a w U=>?_
   have U:=U.drop 0
   refine St.lo (σ:=Nat) (2::(run 4 6 (run 44 23 []))) ⟨λi=>[(6,AV.int i)],λi=>[],λi=>i<=(ba l).calls.length⟩ (λi=>(ba l).calls.length-i) 0 U ?aJ ?aK
   case aJ=>exact Nat.zero_le _
   case aK=>
    rintro i I a w aj U
    have uv:i<=(ba l).calls.length:=aj
    refine ck λI a w U=>?_
    refine cz (λal=>?_) λal=>?_
    ·refine bM λI a w U=>?_
     refine U.alloc rfl dQ gD λb7 I a w U=>?_
     refine ai λI a w U=>?_
     obtain⟨I,U⟩:=U.fb 0 7
     refine ob λI a w U=>?_
     refine Cl (λaH=>?_) λaH=>?_
     ·refine zt ?_
      refine aI λI a w U=>?_
      have U:=U.drop 0
      exact U.ag (i+1) (by show i+1<=_;omega)
     ·obtain⟨h1,h2⟩:=aH
      refine zt ?_
      obtain⟨v,hv,pY,-⟩:=RS hI (aV al) h1 h2
      have bB:=ui ec (aV al)
      have kg:=(ec.call al).D3
      have U:=U.fT
      refine U.eo [([],none),([],none),([],none),([],none),([],none),([],none),([],none),([],none),([],none),([],none),([],none),([],none),([],none),([],none),([1],some (1,[8])),([1],some (1,[8])),([],none)] (by kernel_rfl) (by kernel_rfl) rfl ?_
      refine cD ?_
      refine .o (bY (p9 (ba l) (ab (ba l).calls i).an lr (by omega)) (aw (.t rfl) (aw (.t rfl) aL))) ?_
      refine bT ?_
      refine .o (dS (i:=0) ju gO .tt .c (λ_=>by omega)) ?_
      refine cD ?_
      refine .o (bY (G9 hv) (aw .r (aw .tt (aw .tt aL)))) ?_
      refine cD ?_
      refine aS.alloc 1 rfl rfl bA dE<|aS.mz 1 rfl bA rfl .tt rfl rfl ?_
      refine bn ?_
      refine .nil ?_
      intro I a w U
      obtain⟨b8,U⟩:=U.lC (d:=8) 1 rfl rfl
      obtain⟨I,U⟩:=U.fb 1 8
      refine gz λI a w U=>?_
      refine U.q .F (bY (show Fn Tryz.prog 30 [bm v.aO,bm (ab (ba l).calls i).ctx] (AV.bool true) from by rw[pY];exact tT _) (aw .ag (aw .ag aL))) λU=>?_
      refine aA λI a w U=>?_
      refine U.cd (λaM=>?_) λaM=>?_
      ·exfalso;simp at aM
       skip
      ·refine aI λI a w U=>?_
       have U:=U.drop 0
       exact U.ag (i+1) (by show i+1<=_;omega)
    ·refine zt ?_
     refine ai λI a w U=>?_
     refine U.rt ?_
     rfl
end Go.Proofs.YtjepcfpkclegdaaGreat
