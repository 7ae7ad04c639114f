/- Part 48: contracts of functions, plain facts. -/
import Derived.Test.YtldbakcpcfdlaaaGreatP45
set_option linter.all false
set_option maxRecDepth 100000
set_option maxHeartbeats 4000000
namespace Go.Proofs.YtldbakcpcfdlaaaGreat
open Go Go.RowKit Tryz
attribute [local irreducible] wpList Code.wp Ok
def Yv (code:List UInt8):
 Fn prog 9 [gn code] (AV.bool true):=by
 refine Fn.go 64 func9 ntmps9 (λW I a U=>?_);have hle:=U.eE (t:=0) rfl;refine aX λI a w U=>?_;refine cz (λae=>?_) λae=>?_
 .refine bf ?_;rfl
 refine bD λI a w U=>?_;refine U.cY [] (Ey code om) (ax .r aH) rfl aP rfl λl I a w atE U=>?_;refine aG λI a w U=>?_;refine U.o (.cl (Et l)) λU=>?_;refine U.alloc rfl dP dW λb4 I a w U=>?_;refine aB λI a w U=>?_;obtain⟨I,U⟩:=U.fb 0 4;refine U.m λU=>?_;refine U.o (.cl (BI l)) λU=>?_;refine U.alloc rfl dP dW λb5 I a w U=>?_;refine bk λI a w U=>?_;refine U.o (.c2 (DV (cx l) (By _))) λU=>?_;refine aB λI a w U=>?_;refine U.cd (λah=>?_) λah=>?_
 .exfalso;simp at ah;skip
 refine wp_skip<|bm<|wp_seq<|wp_seq ?_;obtain⟨hI,hT⟩:=D8 l;have ox:=D9 l;refine aB λI a w U=>?_;refine St.lo (σ:=Nat) (run 2 6 (run 25 22 [])) ⟨λn=>[(6,AV.int n)],λn=>[Own.gone,Own.box b5 28 (ld (cx l) (2*n)).cells],λn=>n<=2⟩ (λn=>2-n) 0 U ?aI ?bF;case aI=>exact Nat.zero_le _
 rintro n I a w ao U;have CS:n<=2:=ao;dsimp only at U;refine aF λI a w U=>?_;refine cz (λaq=>?_) λaq=>?_
 .have xP:n<2:=by omega
  refine aB λI a w U=>?_;refine St.lo (σ:=Nat) (7::(run 21 26 [])) ⟨λc=>[(7,AV.int c)],λc=>[Own.gone,Own.box b5 28 (ld (cx l) (2*n+c)).cells],λc=>c<=2⟩ (λc=>2-c) 0 U ?eo ?jK;case eo=>exact Nat.zero_le _
  rintro c I a w ao U;have IJ:c<=2:=ao;dsimp only at U;refine aF λI a w U=>?_;refine cz (λaK=>?_) λaK=>?_
  .have js:c<2:=by omega
   refine wp_skip<|bm<|wp_seq<|wp_block<|wp_seq ?_;obtain⟨mw,eR⟩:=X1 l (k:=(2*n+c)) om;rw[show(2*n+c)%2=c by omega] at eR;have hrk:=(fD.1 eR).1.al;refine aG λI a w U=>?_;refine U.o (.bd gO (.k (.k aZ.nil))) λU=>?_;refine U.o (bO (OU (ld (cx l) (2*n+c)) (ev 2 0 c) mw) (ax .tt (ax .tt aH))) λU=>?_;refine aX λI a w U=>?_;change St _ _ [Own.gone,Own.box b5 28 (zK (ld (cx l) (2*n+c)) c).cells] _ _ _ at U;refine bY λI a w U=>?_;refine U.o (.bd gO (.k (.k (.k aZ.nil)))) λU=>?_;refine U.o (bO (OU (zK (ld (cx l) (2*n+c)) c) (LD ((zK (ld (cx l) (2*n+c)) c).al.length-1)) eR) (ax .tt (ax .tt aH))) λU=>?_;refine jW λI a w U=>?_;change St _ _ [Own.gone,Own.box b5 28 (Ek (ld (cx l) (2*n+c)) c).cells] _ _ _ at U;rw[ak9 (cx l) js] at U;exact U.ag (c+1) (by show c+1<=_;omega)
  refine wp_exit<|cB<|cB<|fo<|z4<|bm ?_;obtain rfl:c=2:=by omega
  refine aR λI a w U=>?_;exact U.ag (n+1) (by show n+1<=_;omega)
 refine wp_exit<|cB<|cB<|fo<|bm<|wp_seq ?_;obtain rfl:n=2:=by omega
 have A7:=(X1 l (k:=4) om).1;have sP:=anZ l;have wj:=Ej 25 A7;change St _ _ [Own.gone,Own.box b5 28 (ld (cx l) 4).cells] _ _ _ at U;refine bD λI a w U=>?_;refine U.o (.c1 (Ii (ld (cx l) 4) A7)) λU=>U.alloc rfl dP dW λb8 I a w U=>?_;refine aB λI a w U=>?_;obtain⟨I,U⟩:=U.fb 2 8;refine U.o .la λU=>?_;refine U.o (bO (XD wj sP.2.1) (ax .tt aH)) λU=>?_;refine bk λI a w U=>?_;refine U.q .T (bO (X0 wj sP.2.2.1) (ax .ag aH)) λU=>?_;refine bk λI a w U=>?_;refine U.q .T (bO (Wl wj sP.2.2.2) (ax .ag aH)) λU=>?_;refine bk λI a w U=>?_;refine U.q .T (bO (NO wj sP.1) (ax .ag aH)) λU=>?_;refine c8 ?_;exact bB bn
def Yu (code:List UInt8):
 Fn prog 8 [gn code] (AV.bool true):=by
 refine Fn.go 37 func8 ntmps8 (λW I a U=>?_);have hle:=U.eE (t:=0) rfl;refine aX λI a w U=>?_;refine cz (λae=>?_) λae=>?_
 .refine bf ?_;rfl
 refine bD λI a w U=>?_;refine U.cY [] (Ey code om) (ax .r aH) rfl aP rfl λl I a w atA U=>?_;refine aG λI a w U=>?_;refine U.o (.cl (Et l)) λU=>?_;refine U.alloc rfl dP dW λb4 I a w U=>?_;refine aB λI a w U=>?_;obtain⟨I,U⟩:=U.fb 0 4;refine U.m λU=>?_;refine U.o (.cl (BI l)) λU=>?_;refine U.alloc rfl dP dW λb5 I a w U=>?_;refine aB λI a w U=>?_;obtain⟨I,U⟩:=U.fb 1 5;refine aG λI a w U=>?_;refine U.o (.c2 (DV (cx l) (By _))) λU=>?_;refine aB λI a w U=>?_;refine U.cd (λah=>?_) λah=>?_
 .exfalso;simp at ah;skip
 refine wp_skip<|bm<|wp_seq ?_;obtain⟨hI,hT⟩:=D8 l;have ox:=D9 l;obtain⟨hIx,wj,hTx⟩:=EC l;have sP:=anX l;refine bD λI a w U=>?_;refine U.o (.c1 (Ii (cx l) ox)) λU=>U.alloc rfl dP dW λb6 I a w U=>?_;refine aB λI a w U=>?_;obtain⟨I,U⟩:=U.fb 2 6;refine U.o .la λU=>?_;refine U.o (bO (NO wj sP.1) (ax .tt aH)) λU=>?_;refine aG λI a w U=>?_;refine U.q .T (bO (XD wj sP.2.1) (ax .ag aH)) λU=>?_;refine bx λI a w U=>?_;refine U.q .T (bO (X0 wj sP.2.2.1) (ax .ag aH)) λU=>?_;refine bk λI a w U=>?_;refine U.q .T (bO (Wl wj sP.2.2.2) (ax .ag aH)) λU=>?_;refine c8 ?_;exact bB bn
def OZ (l:List Ev) (e:Ev):
 Fn prog 22 [Jc l,e.av] (AV.dG [(j4 l e).av,(nT l e).av,AV.bool (wi l e)]):=by
 refine Fn.go 24 func22 ntmps22 (λW I a U=>?_);refine bD λI a w U=>?_;refine U.alloc rfl dP dW λb4 I a w U=>U.alloc rfl eJ im λb5 I a w U=>?_;refine aG λI a w U=>?_;refine U.o (.cl (BI l)) λU=>?_;refine U.alloc rfl dP dW λb7 I a w U=>?_;refine aB λI a w U=>?_;obtain⟨I,U⟩:=U.fb 2 7;have aty:=(By l).2.2.1.1;refine cF λI a w U=>?_;refine cz (λae=>?_) λae=>?_
 .have uM:17<(cx l).calls.length:=by omega
  refine bD λI a w U=>?_;refine U.o (.bd im aZ.nil) λU=>?_;refine aR λI a w U=>?_;refine U.ret rfl (.cons (.sx 0) (.cons (.sx 1) (.cons (.t rfl) aV.nil))) ?_;rw[show j4 l e=cx l from if_pos uM,show nT l e=oM from if_pos uM,show wi l e=false from if_pos uM];rfl
 obtain⟨e1,e2,e3⟩:=Ex (l:=l) (e:=e) om;refine zt ?_;refine U.dt 7 ?_;simp only[TD];refine bG ?_;refine .o (.c1 (Ii (cx l) (D9 l))) ?_;refine bG ?_;refine .o (.c2 (OV (bl 25 (cx l)) e (EC l).2.1)) ?_;refine dO ?_;refine .nil ?_;intro I a w U;refine aR λI a w U=>?_;refine U.ret rfl (.cons (.sx 0) (.cons (.sx 1) (.cons (.t rfl) aV.nil))) ?_;rw[e1,e2,e3];rfl
def Yx (code:List UInt8):
 Fn prog 6 [gn code] (AV.bool true):=by
 refine Fn.go 79 func6 ntmps6 (λW I a U=>?_);have hle:=U.eE (t:=0) rfl;refine aX λI a w U=>?_;refine cz (λae=>?_) λae=>?_
 .refine bf ?_;rfl
 refine bD λI a w U=>?_;refine U.cY [] (Ey code om) (ax .r aH) rfl aP rfl λl I a w vT U=>?_;refine aG λI a w U=>?_;refine U.o (.bd gO (.k (.k (.k (.k (.k aZ.nil)))))) λU=>?_;refine U.o (.cl (OZ l lQ)) λU=>?_;refine bx λI a w U=>?_;refine U.alloc rfl dP dW λb4 I a w U=>U.alloc rfl eJ im λb5 I a w U=>?_;refine U.sb 0 λU=>?_;obtain⟨I,U⟩:=U.fb 0 4;refine U.sb 1 λU=>?_;obtain⟨I,U⟩:=U.fb 1 5;refine aB λI a w U=>?_;have BK:=then_ok l lQ;refine aF λI a w U=>?_;refine Cy (λah=>?_) λah=>?_
 .refine bD λI a w U=>?_;refine U.o (bO (M7 (then_ok l lQ)) (ax .tt aH)) λU=>?_;refine aG λI a w U=>?_;refine U.q .T (.cl (BI l)) λU=>?_;refine U.q .T .mv λU=>?_;refine U.q .T (.cl (Et l)) λU=>?_;refine U.q .T (.cl (DV (cx l) (By _))) λU=>?_;refine c8 ?_;exact bB bn
 have uM:=Ow ah;have aM:=an1 uM;refine oE λI a w U=>?_;refine U.cd (λaq=>?_) λaq=>?_
 .exfalso;have h1:=aM.2.1;have h2:=aM.2.2.1;simp only[B] at aq;omega;skip
 refine aB λI a w U=>?_;have U:=U.drop 0;refine St.lo (σ:=Nat) (2::(run 3 7 (run 37 42 []))) ⟨λi=>[(7,AV.int i)],λi=>[],λi=>i<=3⟩ (λi=>3-i) 0 U ?aI ?bF;case aI=>exact Nat.zero_le _
 rintro i I a w ao U;have hki:i<=3:=ao;refine aF λI a w U=>?_;refine cz (λaK=>?_) λaK=>?_
 .have rW:i<3:=by omega
  have X8:=aM.2.2.1;have kY:(nT l lQ).keys.length=3:=by rw[aM.2.2.2.2];rfl
  have hch:=an2 uM lQ;refine zt ?_;have U:=U.jj;refine U.gG [([],none),([],none),([],none),([],none),([],none),([],none),([],none),([],none),([],none),([],none),([],none),([0],some (0,[8])),([0],some (0,[8])),([],none)] aO aO rfl ?_;refine bG ?_;refine .o (bO (M6 (j4 l lQ) 0 BK om) (ax (.t rfl) (ax .c aH))) ?_;refine fZ ?_;refine .o (.cl (ak8 (cg (j4 l lQ) 0) (ab (nT l lQ).keys i) hch)) ?_;refine dO ?_;refine bc.alloc 0 rfl rfl bL ee<|bc.qu 0 rfl bL rfl .tt rfl rfl ?_;refine bG ?_;refine .nil ?_;intro I a w U;obtain⟨b8,U⟩:=U.oC (d:=8) 0 rfl rfl;obtain⟨I,U⟩:=U.fb 0 8;refine bm<|wp_seq<|U.dk ?_;refine mA ?_;refine .o (B8 .tt .tt wP) ?_;refine pK ?_;refine .q .T2 (CB (λhg=>alh (aM.2.2.2.1 i rW) (by first|exact hg|exact(Bool.and_eq_true_iff.1 hg).1|exact(Bool.and_eq_true_iff.1 hg).2|(simp at hg;first|exact hg|exact hg.1|exact hg.2))) (ax .ag (ax .ag aH))) ?_;refine dO ?_;refine .nil ?_;intro I a w U;refine bm ?_;refine U.cd (λaS=>?_) λaS=>?_
  .exfalso;rw[aM.2.2.2.1 i rW] at aS;cases hy:(ab (nT l lQ).au i).yes<;>simp[hy] at aS;skip
  refine aR λI a w U=>?_;have U:=U.drop 0;exact U.ag (i+1) (by show i+1<=_;omega)
 refine zt ?_;refine bf ?_;rfl
end Go.Proofs.YtldbakcpcfdlaaaGreat
