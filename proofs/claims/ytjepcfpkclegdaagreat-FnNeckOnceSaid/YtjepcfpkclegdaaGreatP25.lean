/- Part 25: contracts of functions, plain facts. -/
import Derived.Test.YtjepcfpkclegdaaGreatP18
import Derived.Test.YtjepcfpkclegdaaGreatP19
set_option linter.unusedVariables false
set_option linter.unusedSimpArgs false
set_option maxRecDepth 100000
set_option maxHeartbeats 4000000
namespace Go.Proofs.YtjepcfpkclegdaaGreat
open Go Go.RowKit
attribute [local irreducible] wpList Code.wp Ok
theorem IN {s:Server} {m:aC} (h:bF s) (hm:bO m=true) (hu:s.up=true):bF (eG s m).1:=by
 unfold eG
 repeat' split
 ·exact abX h hm
 ·exact h
 ·exact aa3 h
 ·exact Pj h
 ·exact h
 ·exact abr h hu
 ·exact aa5 h
 ·exact aa4 h hm
 ·exact h
theorem acR {s:Server} {m:aC} (h:bF s):bF (fJ s m).1:=by
 unfold fJ
 split
 ·rename_i hc
  simp only[Bool.and_eq_true] at hc
  exact IN h hc.1.2 hc.1.1
 ·exact h
theorem acS (s:Server) (m:aC) (aj:gK s=true):
 Fn Tryz.prog 211 [s.av,m.av] (bq (jm s m)):=by
 refine Fn.go 68 Tryz.func211 Tryz.ntmps211 (λW I a U=>?_)
 have hp:=AW aj
 refine bM λI a w U=>?_
 refine U.o (.c1 (AA ..)) λU=>?_
 refine uO λI a w U=>?_
 refine U.q .F (.cl (Ic _ _ aj)) λU=>?_
 refine aA λI a w U=>?_
 refine U.cd (λae=>?_) λae=>?_
 ·rw[DX s m] at ae;replace ae:=nt ae
  refine zt ?_
  refine U.l0 λb24 I a w U=>?_
  refine ai λI a w U=>?_
  obtain⟨I,U⟩:=U.fr 0 4
  refine U.rt ?_
  exact(by unfold jm;rw[ae];rfl)
 ·rw[DX s m] at ae;replace ae:=nf ae
  refine bt λI a w U=>?_
  refine U.o (.cl (Qb _ _ hp.2.1)) λU=>?_
  refine bk λI a w U=>?_
  refine U.alloc rfl bA dE λb5 I a w U=>?_
  refine bt λI a w U=>?_
  refine U.o (.bd jU bf.nil) λU=>?_
  refine U.o (uG [_,_] [_,_] og rfl rfl .tt .tt) λU=>?_
  refine zt ?_
  refine U.cd (λah=>?_) λah=>?_
  ·rw[C5 m.aq] at ah;replace ah:=nt ah
   refine dD λI a w U=>?_
   refine U.o (.cl (tU ..)) λU=>?_
   refine jT λI a w U=>?_
   refine U.cd (λal=>?_) λal=>?_
   ·refine zt ?_
    refine U.l0 λb49 I a w U=>?_
    refine ai λI a w U=>?_
    obtain⟨I,U⟩:=U.fr 1 4
    refine U.rt ?_
    exact(by unfold jm;rw[ae,if_pos rfl,ah,if_neg (by simp)];rw[AH hp.2.1] at al;rw[AG al];rfl)
   ·refine Ad λI a w U=>?_
    refine U.o (.bd eb (.k (.k (.k (.k (.k (.t (.k bf.nil)))))))) λU=>?_
    refine U.alloc rfl dr eb λb7 I a w U=>?_
    refine aA λI a w U=>?_
    refine U.cd (λaH=>?_) λaH=>?_
    ·refine bH λI a w U=>?_
     refine U.o (.li [_] lH (.u .nil)) λU=>?_
     refine bk λI a w U=>?_
     refine U.o (.li [_] gP (.u .nil)) λU=>?_
     refine ai λI a w U=>?_
     refine U.rt ?_
     exact(by unfold jm;rw[ae,if_pos rfl,ah,if_neg (by simp)];rw[AH hp.2.1] at aH⊢;obtain⟨v,hv⟩:=Option.isSome_iff_exists.1 aH;rw[hv];rfl)
    ·refine bH λI a w U=>?_
     refine U.o (.li [_] gP (.u .nil)) λU=>?_
     refine ai λI a w U=>?_
     refine U.rt ?_
     exact(by simp only[B] at al;rw[al] at aH;cases aH)
  ·rw[C5 m.aq] at ah;replace ah:=nf ah
   refine Ad λI a w U=>?_
   refine U.o (.bd eb (.k (.k (.k (.k (.k (.t (.k bf.nil)))))))) λU=>?_
   refine U.alloc rfl dr eb λb7 I a w U=>?_
   refine aA λI a w U=>?_
   refine U.cd (λaM=>?_) λaM=>?_
   ·refine bH λI a w U=>?_
    refine U.o (.li [_] lH (.u .nil)) λU=>?_
    refine bk λI a w U=>?_
    refine U.o (.li [_] gP (.u .nil)) λU=>?_
    refine ai λI a w U=>?_
    refine U.rt ?_
    exact(by unfold jm;rw[ae,if_pos rfl,ah,if_pos rfl];obtain⟨v,hv⟩:=Option.isSome_iff_exists.1 aM;unfold nF;rw[hv];rfl)
   ·refine bH λI a w U=>?_
    refine U.o (.li [_] gP (.u .nil)) λU=>?_
    refine ai λI a w U=>?_
    refine U.rt ?_
    exact(by unfold jm;rw[ae,if_pos rfl,ah,if_pos rfl];unfold nF;rw[show fA s.ao m.key=none from AG (by rw[aM];rfl)];rfl)
theorem acT (s:Server) (hg:bF s):
 Fn Tryz.prog 180 [s.av] (bq (kJ s)):=by
 refine Fn.go 155 Tryz.func180 Tryz.ntmps180 (λW I a U=>?_)
 have aj:=jY.2 hg
 have cT:=hg.ok
 have lens:s.aG.length<=9223372036854775807/\s.ao.length<=9223372036854775807/\s.waits.length<=9223372036854775807/\s.aD.length<=9223372036854775807/\s.bl.length<=9223372036854775807:=⟨U.ln 0 2,U.ln 0 3,U.ln 0 4,U.ln 0 5,U.ln 0 6⟩
 have h3:=hg.aG
 have A5:=fV hg.ao
 have lR:=fV hg.waits
 have kv:=jz hg.aD
 have qZ:∀v∈s.waits,v.aO.length<=6:=λv hv=>gR (jk (gu hg.waits v hv)).2.2
 have hsd:=GZ hg.site
 refine aA λI a w U=>?_
 refine U.l0 λsg I a w U=>?_
 refine aF λI a w U=>?_
 refine U.o (.c1 (vw ..)) λU=>?_
 refine jj λI a w U=>?_
 refine U.cd (λae=>?_) λae=>?_
 ·rw[Dp] at ae;replace ae:=nt ae
  refine aA λI a w U=>?_
  obtain⟨I,U⟩:=U.fr 0 2
  refine U.rt ?_
  exact(by rw[aj,Bool.true_and] at ae;rw[OC ae];rfl)
 ·rw[Dp] at ae;replace ae:=nf ae;rw[Bool.and_eq_true] at ae
  refine ai λI a w U=>?_
  refine St.lo (σ:=Nat×Value) (run 2 3 (run 20 24 [])) ⟨λ⟨n,v⟩=>[(4,AV.int n),(3,AV.val v)],λ⟨n,v⟩=>[Own.row v 70 15 ((o8 s n).map aC.cells)],λ⟨n,v⟩=>n<=s.aG.length⟩ (λ⟨n,v⟩=>s.aG.length-n) (0,.slice (some ⟨sg,0,none⟩) 0 0) U ?aJ ?aK
  case aJ=>exact Nat.zero_le _
  case aK=>
   rintro⟨n,v⟩ I a w aj U
   have hn:n<=s.aG.length:=aj
   dsimp only at U
   refine ck λI a w U=>?_
   refine cz (λah=>?_) λah=>?_
   ·refine jT λI a w U=>?_
    refine cz (λal=>?_) λal=>?_
    ·refine bk λI a w U=>?_
     refine U.o (bY (QP s (n:Int) cT.ao cT.waits hg.site h3 (by omega) kv) (aw (.t rfl) (aw (.t rfl) aL))) λU=>?_
     refine U.o (.li [(fM s (n:Int)).cells] gP (.u .nil)) λU=>?_
     refine U.append 0 rfl eU dr rfl .tt .r rfl (by have:=He s n;simp;omega) λDF a w U=>?_
     rw[cA,Ow (by simpa using al)] at U
     refine aU λI a w U=>?_
     exact U.ag (n+1,DF) (ah)
    ·refine aI λI a w U=>?_
     rw[Ox (by simpa using al)] at U
     exact U.ag (n+1,v) (ah)
   ·refine zt ?_
    refine aF λI a w U=>?_
    refine U.o (.c1 (qw ..)) λU=>?_
    refine U.o (kf .c .tt (λ_=>by omega)) λU=>?_
    refine aA λI a w U=>?_
    rw[OD (by omega)] at U
    refine ai λI a w U=>?_
    refine St.lo (σ:=Nat×Value) (3::(run 4 6 (run 49 49 []))) ⟨λ⟨k,v⟩=>[(6,AV.int k),(3,AV.val v)],λ⟨k,v⟩=>[Own.row v 70 15 ((jA s k).map aC.cells)],λ⟨k,v⟩=>k<=s.aD.length⟩ (λ⟨k,v⟩=>s.aD.length-k) (0,v) U ?cU ?cV
    case cU=>exact Nat.zero_le _
    case cV=>
     rintro⟨k,v⟩ I a w aj U
     have hk:k<=s.aD.length:=aj
     dsimp only at U
     refine ck λI a w U=>?_
     refine cz (λaH=>?_) λaH=>?_
     ·refine zt ?_
      have U:=U.fT
      refine U.eo [([],none),([],none),([],none),([],none),([],none),([],none),([],none),([],none),([],none),([],none),([],none),([],none),([],none),([],none),([],none),([],none),([],none),([],none),([1],some (1,[7])),([1],some (1,[7])),([],none)] (by kernel_rfl) (by kernel_rfl) rfl ?_
      refine qn ?_
      refine .o (.cl (tU ..)) ?_
      refine cD ?_
      refine aS.alloc 1 rfl rfl bA dE<|aS.mz 1 rfl bA rfl .tt rfl rfl ?_
      refine bn ?_
      refine .nil ?_
      intro I a w U
      obtain⟨b7,U⟩:=U.lC (d:=7) 1 rfl rfl
      obtain⟨I,U⟩:=U.fb 1 7
      obtain⟨vd,pY,AK,jn⟩:=Pc hg (aV aH)
      have hva:kz s.ao ⟨(ab s.aD k).key,(ab s.aD k).aq⟩=some vd:=by rw[AH hg.ao];exact pY
      rw[show(kz s.ao ⟨(ab s.aD k).key,(ab s.aD k).aq⟩).getD default=vd from by rw[hva];rfl] at U
      refine aY<|wp_seq<|wp_seq<|U.dk ?_
      refine dq ?_
      refine .o (.c1 (uV ..)) ?_
      refine .o ((by first|exact dS fU er .tt .tt (λ_=>by have:=qF (qA (gu hg.ao vd jn));omega)|exact fS fU er .tt .tt (λ_=>by have:=qF (qA (gu hg.ao vd jn));omega)|exact fZ fU er .tt .tt (λ_=>by have:=qF (qA (gu hg.ao vd jn));omega))) ?_
      refine cD ?_
      refine .nil ?_
      intro I a w U
      refine aY ?_
      refine cz (λaM=>?_) λaM=>?_
      ·refine zt ?_
       refine aI λI a w U=>?_
       have U:=U.drop 1
       rw[YC aH AK (by simpa using aM)] at U
       exact U.ag (k+1,v) (aH)
      ·refine wp_skip<|aY<|wp_seq ?_
       rw[show jA s k=jA s k++(kH s (ab s.aD k)).take 0 from by simp] at U
       refine ai λI a w U=>?_
       refine St.lo (σ:=Nat×Value) (3::(9::(run 15 83 []))) ⟨λ⟨j,v2⟩=>[(9,AV.int j),(3,AV.val v2)],λ⟨j,v2⟩=>[Own.row v2 70 15 ((jA s k++(kH s (ab s.aD k)).take j).map aC.cells),Own.gone],λ⟨j,v2⟩=>j<=2⟩ (λ⟨j,v2⟩=>2-j) (0,v) U ?fo ?fq
       case fo=>exact Nat.zero_le _
       case fq=>
        rintro⟨j,v2⟩ I a w aj U
        have hj:j<=2:=aj
        dsimp only at U
        refine aA λI a w U=>?_
        refine cz (λbh=>?_) λbh=>?_
        ·refine gz λI a w U=>?_
         refine U.o (.li [vd.cells] lH (.u .nil)) λU=>?_
         refine U.o (.bd eb (.k (.k (.k (.k bf.nil))))) λU=>?_
         refine U.o (.li [({cg with kind:=5,aR:=s.site,to:=2-2*bL s.site+(j:Int),ao:=[vd]}:aC).cells] gP (.u .nil)) λU=>?_
         refine U.append 0 rfl eU dr rfl .tt .r rfl (by have:=yD s k hk;simp;omega) λv97 a w U=>?_
         rw[cA,OF (by unfold dX;rw[<-AK];simpa using aM) pY (by omega)] at U
         refine aU λI a w U=>?_
         exact U.ag (j+1,v97) (by show j+1<=2;omega)
        ·refine zt ?_
         refine aI λI a w U=>?_
         have U:=U.drop 1
         rw[OG aH (by omega)] at U
         exact U.ag (k+1,v2) (aH)
     ·refine zt ?_
      refine U.l0 λb98 I a w U=>?_
      refine ai λI a w U=>?_
      rw[OE (by omega)] at U
      refine ai λI a w U=>?_
      refine St.lo (σ:=Nat×Value×Value) (3::(run 4 10 (run 54 99 []))) ⟨λ⟨i,v,u⟩=>[(11,AV.int i),(3,AV.val v),(10,AV.val u)],λ⟨i,v,u⟩=>[Own.row v 70 15 ((oD s (nM s i)).map aC.cells),Own.row u 63 3 ((nM s i).map au.cells)],λ⟨i,v,u⟩=>i<=s.waits.length⟩ (λ⟨i,v,u⟩=>s.waits.length-i) (0,v,.slice (some ⟨b98,0,none⟩) 0 0) U ?q8 ?q9
      case q8=>exact Nat.zero_le _
      case q9=>
       rintro⟨i,v,u⟩ I a w aj U
       have hi:i<=s.waits.length:=aj
       dsimp only at U
       refine ck λI a w U=>?_
       refine cz (λaZ=>?_) λaZ=>?_
       ·refine ai λI a w U=>?_
        refine St.lo (σ:=Nat×Value×Value) (3::(10::(run 2 12 (run 47 106 [])))) ⟨λ⟨j,v2,u2⟩=>[(12,AV.int j),(3,AV.val v2),(10,AV.val u2)],λ⟨j,v2,u2⟩=>[Own.row v2 70 15 ((oD s (jN s i j)).map aC.cells),Own.row u2 63 3 ((jN s i j).map au.cells)],λ⟨j,v2,u2⟩=>j<=(ab s.waits i).aO.length⟩ (λ⟨j,v2,u2⟩=>(ab s.waits i).aO.length-j) (0,v,u) U ?Ix ?Iy
        case Ix=>exact Nat.zero_le _
        case Iy=>
         rintro⟨j,v2,u2⟩ I a w aj U
         have hj:j<=(ab s.waits i).aO.length:=aj
         have hdj:=qZ _ (aV aZ)
         dsimp only at U
         refine mA λI a w U=>?_
         refine cz (λbV=>?_) λbV=>?_
         ·refine xZ λI a w U=>?_
          refine U.alloc rfl cH fL λxf I a w U=>?_
          refine ai λI a w U=>?_
          obtain⟨I,U⟩:=U.fb 2 13
          refine aF λI a w U=>?_
          refine U.o (.c2 (Qc s _ cT.ao)) λU=>?_
          refine bt λI a w U=>?_
          refine U.q .T (Cf 1 (aw .ag (aw .ag aL)) rfl (A6 (jN s i j) (ab (ab s.waits i).aO j)) (λ_ _ _ h=>h)) λU=>?_
          refine aA λI a w U=>?_
          refine U.cd (λcY=>?_) λcY=>?_
          ·refine aF λI a w U=>?_
           refine U.o (.li [(ab (ab s.waits i).aO j).cells] iX (.u .nil)) λU=>?_
           refine U.append 1 rfl dJ cH rfl .tt .r rfl (by have:=yE qZ i hi;have:=AI s i j;have:=qZ _ (aV aZ);simp;omega) λacX a w U=>?_
           rw[cA,show jN s i j++[(ab (ab s.waits i).aO j)]=jN s i (j+1) from by rw[yy bV,C7 cY]] at U
           refine ai λI a w U=>?_
           refine U.dt 12 ?_
           simp only[TD]
           refine fi ?_
           refine .o (.c1 (yp _ hg.site)) ?_
           refine dq ?_
           refine .o (.bd eb (.k (.k (.k (.k (.t bf.nil)))))) ?_
           refine .o (.li [(mV s (ab (ab s.waits i).aO j)).cells] gP (.u .nil)) ?_
           refine .nil ?_
           intro I a w U
           refine U.append 0 rfl eU dr rfl .tt .r rfl (by have:=yE qZ i hi;have:=AI s i j;have:=qZ _ (aV aZ);have:=yD s _ (Nat.le_refl s.aD.length);simp[oD];omega) λacY a w U=>?_
           rw[cA,OA,show jN s i j++[(ab (ab s.waits i).aO j)]=jN s i (j+1) from by rw[yy bV,C7 cY]] at U
           refine aU λI a w U=>?_
           have U:=U.drop 2
           exact U.ag (j+1,acY,acX) (bV)
          ·refine aI λI a w U=>?_
           have U:=U.drop 2
           rw[show jN s i j=jN s i (j+1) from by rw[yy bV,N6 cY]] at U
           exact U.ag (j+1,v2,u2) (bV)
         ·refine zt ?_
          refine aI λI a w U=>?_
          rw[G1 aZ (by omega)] at U
          exact U.ag (i+1,v2,u2) (aZ)
       ·refine wp_exit<|cN<|cN<|gw<|aY<|wp_seq ?_
        rw[G2 s (by omega),Hg ae.2 h3] at U
        obtain⟨I,U⟩:=U.fr 0 3
        refine bH λI a w U=>?_
        refine U.o (bY (Hx (kJ s) (by have:=OB hg;omega) (λy hy=>xb (DM hg y hy))) (aw .r aL)) λU=>?_
        refine ai λI a w U=>?_
        refine U.rt ?_
        rfl
theorem IP (q:Call) (m:aC) (hc:ff q.an=true) (hm:kD m):
 Fn Tryz.prog 207 [q.av,m.av] (bq (kb q m)):=by
 refine Fn.go 31 Tryz.func207 Tryz.ntmps207 (λW I a U=>?_)
 have bB:=qt.1 hc
 refine bH λI a w U=>?_
 refine U.box rfl .tt λb3 I a w U=>?_
 refine ai λI a w U=>?_
 refine U.l0 λb7 I a w U=>?_
 refine aA λI a w U=>?_
 refine St.lo (σ:=Nat×Int×Int×Int×Value) (run 2 5 (run 22 8 [])) ⟨λ⟨j,f1,f2,f3,v⟩=>[(6,AV.int j),(5,AV.val v)],λ⟨j,f1,f2,f3,v⟩=>[Own.box b3 70 ({m with aR:=f1,to:=f2,call:=f3}:aC).cells,Own.row v 70 15 (((kb q m).take j).map aC.cells)],λ⟨j,f1,f2,f3,v⟩=>j<=2⟩ (λ⟨j,f1,f2,f3,v⟩=>2-j) (0,m.aR,m.to,m.call,.slice (some ⟨b7,0,none⟩) 0 0) U ?aJ ?aK
 case aJ=>exact Nat.zero_le _
 case aK=>
  rintro⟨j,f1,f2,f3,v⟩ I a w aj U
  have hj:j<=2:=aj
  dsimp only at U
  refine aA λI a w U=>?_
  refine cz (λae=>?_) λae=>?_
  ·refine gz λI a w U=>?_
   refine U.o (kf .c .tt (λ_=>by omega)) λU=>?_
   refine uO λI a w U=>?_
   refine U.o (.c1 (O4 {m with aR:=10+q.an,to:=2*q.an+(j:Int),call:=q.num} hm)) λU=>?_
   refine U.o (.li [({m with aR:=10+q.an,to:=2*q.an+(j:Int),call:=q.num}:aC).cells] gP (.u .nil)) λU=>?_
   refine U.append 1 rfl eU dr rfl .tt .r rfl (by simp[kb];omega) λyF a w U=>?_
   rw[cA,QS q m (by omega)] at U
   refine aU λI a w U=>?_
   exact U.ag (j+1,10+q.an,2*q.an+(j:Int),q.num,yF) (by show j+1<=2;omega)
  ·refine wp_exit<|cN<|cN<|gw<|aY<|wp_seq ?_
   rw[List.take_of_length_le (by show 2<=j;omega)] at U
   obtain⟨I,U⟩:=U.fr 1 5
   refine aA λI a w U=>?_
   refine U.rt ?_
   rfl
theorem acZ (q:Call) (t:Int) (h:dw q t) (ht:t<=1000000):
 Fn Tryz.prog 175 [q.av] (bq (jP q)):=by
 refine Fn.go 89 Tryz.func175 Tryz.ntmps175 (λW I a U=>?_)
 have hb:=h.bD
 have xA:=h.Bh (by omega)
 have oH:=h.lens
 have en:=Dt (pZ.2 h)
 refine aA λI a w U=>?_
 refine U.l0 λb6 I a w U=>?_
 refine gz λI a w U=>?_
 refine U.o (bY (DE q (q.bD+q.end_) (by omega) (by omega)) (aw (.t rfl) (aw (.t rfl) aL))) λU=>?_
 refine wu λI a w U=>?_
 refine U.cd (λae=>?_) λae=>?_
 ·rw[P2 (t:=t) en xA.1] at ae;replace ae:=nt ae
  refine aA λI a w U=>?_
  obtain⟨I,U⟩:=U.fr 0 2
  refine U.rt ?_
  exact(by unfold jP;rw[ae];rfl)
 ·rw[P2 (t:=t) en xA.1] at ae;replace ae:=nf ae
  refine aI λI a w U=>?_
  refine cz (λah=>?_) λah=>?_
  ·refine wp_seq<|U.dk ?_
   refine tv ?_
   refine .o (.bd eb (.k (.k (.k (.k bf.nil))))) ?_
   refine .o (.c2 (IP q {cg with kind:=1,key:=ab q.keys 0,val:=q.val,aO:=q.ctx} h.an ⟨by show q.ctx.length<=_;omega,by simp[u6,cg],by simp[u6,cg],by simp[cg]⟩)) ?_
   refine bn ?_
   refine .nil ?_
   intro I a w U
   refine zt ?_
   refine U.rt ?_
   exact(by unfold jP asks;rw[ae,if_pos rfl,if_pos ah];rfl)
  ·refine ai λI a w U=>?_
   refine St.lo (σ:=Nat×Value) (run 2 3 (run 25 39 [])) ⟨λ⟨k,v⟩=>[(4,AV.int k),(3,AV.val v)],λ⟨k,v⟩=>[Own.row v 70 15 ((pS q k).map aC.cells)],λ⟨k,v⟩=>k<=q.keys.length⟩ (λ⟨k,v⟩=>q.keys.length-k) (0,.slice (some ⟨b6,0,none⟩) 0 0) U ?aJ ?aK
   case aJ=>exact Nat.zero_le _
   case aK=>
    rintro⟨k,v⟩ I a w aj U
    have hk:k<=q.keys.length:=aj
    dsimp only at U
    refine ck λI a w U=>?_
    refine cz (λal=>?_) λal=>?_
    ·refine zt ?_
     refine U.dk ?_
     refine fK ?_
     refine .o (.c2 (CO ..)) ?_
     refine bn ?_
     refine .nil ?_
     intro I a w U
     refine aY ?_
     refine cz (λaH=>?_) λaH=>?_
     ·refine U.dt 9 ?_
      simp only[TD]
      refine lF ?_
      refine .o (.bd eb (.k (.k bf.nil))) ?_
      refine .o (.c2 (IP q (wL (ab q.keys k)) h.an (Na _)))<|.nil ?_
      intro I a w U
      refine U.append 0 rfl eU dr rfl .tt .r rfl (by have:=Hh q k hk;simp[kb];omega) λv63 a w U=>?_
      rw[<-List.map_append,OH al (by simpa using aH)] at U
      refine aU λI a w U=>?_
      exact U.ag (k+1,v63) (al)
     ·refine aI λI a w U=>?_
      rw[OI al (by simpa using aH)] at U
      exact U.ag (k+1,v) (al)
    ·refine wp_exit<|cN<|cN<|gw<|aY<|wp_seq<|wp_seq ?_
     rw[YH (by omega)] at U
     refine ai λI a w U=>?_
     refine St.lo (σ:=Nat×Value) (3::(5::(run 24 64 []))) ⟨λ⟨j,v⟩=>[(5,AV.int j),(3,AV.val v)],λ⟨j,v⟩=>[Own.row v 70 15 ((sf q j).map aC.cells)],λ⟨j,v⟩=>j<=q.aP.length⟩ (λ⟨j,v⟩=>q.aP.length-j) (0,v) U ?cU ?cV
     case cU=>exact Nat.zero_le _
     case cV=>
      rintro⟨j,v⟩ I a w aj U
      have hj:j<=q.aP.length:=aj
      dsimp only at U
      refine ck λI a w U=>?_
      refine cz (λaM=>?_) λaM=>?_
      ·refine zt ?_
       refine U.dt 16 ?_
       simp only[TD]
       refine qn ?_
       refine .o (.bd eb (.k (.k (.t bf.nil)))) ?_
       refine .o (.c2 (IP q (wM (ab q.aP j)) h.an (Nb _)))<|.nil ?_
       intro I a w U
       refine U.append 0 rfl eU dr rfl .tt .r rfl (by have:=OK q j hj;simp[kb];omega) λIH a w U=>?_
       rw[<-List.map_append,OJ aM] at U
       refine aU λI a w U=>?_
       exact U.ag (j+1,IH) (aM)
      ·refine wp_exit<|cN<|cN<|gw<|aY<|wp_seq ?_
       rw[YI ae (by simpa using ah) (by omega)] at U
       obtain⟨I,U⟩:=U.fr 0 3
       refine aA λI a w U=>?_
       refine U.rt ?_
       rfl
theorem ac1 (q:Call) (n:Value) (x:Answer) (t:Int) (hg:∀y∈q.az,dB y=true) (hx:dB x=true) (hl:q.az.length<=1048575) (lV:q.keys.length<=1048576) (hn:q.aP.length<=1048576):
 jK Tryz.prog 228 [q.yz n,x.av,AV.int t] [Own.row n 63 3 (q.aP.map au.cells)] [] (na q x t).av:=by
 refine c7.intro 62 Tryz.func228 rfl Tryz.ntmps228 rfl (by kernel_rfl) (λW I a U=>?_)
 refine sr<|U.box rfl .tt λb3 I a w U=>U.o .bp λU=>U.alloc rfl dQ gD λb6 I a w U=>?_
 refine zt ?_
 refine U.l0 λlN I a w U=>?_
 refine aI λI a w U=>?_
 refine St.lo (σ:=Nat×Bool×List Answer×Value) (run 3 7 (run 32 11 [])) ⟨λ⟨k,done,out,v⟩=>[(9,AV.int k),(8,AV.bool done),(7,AV.val v)],λ⟨k,done,out,v⟩=>[Own.row n 63 3 (q.aP.map au.cells),Own.box b3 39 [AV.int q.an,AV.int q.num,AV.int q.kind,jg q.keys,AV.int q.val,bm q.ctx,AV.int q.bD,AV.int q.end_,AV.bool q.over,AV.int q.aq.time,AV.int q.aq.site,qj q.az,AV.val n],Own.box b6 39 [AV.val (.int .i64 0),AV.val (.int .i64 0),AV.val (.int .i64 0),AV.rows 1 [],AV.val (.int .i64 0),AV.rows 3 [],AV.val (.int .i64 0),AV.val (.int .i64 0),AV.val (.bool false),AV.val (.int .i64 0),AV.val (.int .i64 0),AV.rows 9 [],AV.rows 3 []],Own.row v 45 9 (out.map Answer.cells)],λ⟨k,done,out,v⟩=>nR q.az x k done out⟩ (λ⟨k,done,out,v⟩=>q.az.length-k) (0,false,[],.slice (some ⟨lN,0,none⟩) 0 0) U ?aJ ?aK
 case aJ=>exact nR.zero q.az x
 case aK=>
  rintro⟨k,done,out,v⟩ I a w aj U
  have hp:nR q.az x k done out:=aj
  have hk:=hp.hk
  have kv:=hp.len
  have rF:done.toNat<=1:=by cases done<;>simp
  dsimp only at U
  refine ck λI a w U=>?_
  refine cz (λae=>?_) λae=>?_
  ·refine ai λI a w U=>?_
   refine cz (λah=>?_) λah=>?_
   ·refine aF λI a w U=>?_
    refine U.o (.li [x.cells] uR (.u .nil)) λU=>?_
    refine U.ap 3 λv34 a w U=>?_
    rw[cA] at U
    refine lE λI a w U=>?_
    refine U.o (.li [(ab q.az k).cells] uR (.u .nil)) λU=>?_
    refine U.ap 3 λph a w U=>?_
    rw[cA] at U
    refine aU λI a w U=>?_
    exact U.ag (k+1,true,(out++[x])++[ab q.az k],ph) (by obtain⟨h1,h2⟩:=ah;subst h1;exact hp.before ae h2)
   ·refine dD λI a w U=>?_
    refine U.o (.li [(ab q.az k).cells] uR (.u .nil)) λU=>?_
    refine U.ap 3 λph a w U=>?_
    rw[cA] at U
    refine aU λI a w U=>?_
    exact U.ag (k+1,done,out++[ab q.az k],ph) (hp.step ae (by rcases ah with h|h;exact .inl h;exact .inr (by omega)))
  ·refine wp_exit<|cN<|cN<|gw<|aY ?_
   refine St.cut (σ:=Value) (7::(run 6 43 [])) ⟨λv=>[(7,AV.val v)],λv=>[Own.row n 63 3 (q.aP.map au.cells),Own.box b3 39 [AV.int q.an,AV.int q.num,AV.int q.kind,jg q.keys,AV.int q.val,bm q.ctx,AV.int q.bD,AV.int q.end_,AV.bool q.over,AV.int q.aq.time,AV.int q.aq.site,qj q.az,AV.val n],Own.box b6 39 [AV.val (.int .i64 0),AV.val (.int .i64 0),AV.val (.int .i64 0),AV.rows 1 [],AV.val (.int .i64 0),AV.rows 3 [],AV.val (.int .i64 0),AV.val (.int .i64 0),AV.val (.bool false),AV.val (.int .i64 0),AV.val (.int .i64 0),AV.rows 9 [],AV.rows 3 []],Own.row v 45 9 ((cR q.az x).map Answer.cells)],λv=>True⟩ U ?IQ ?IS
   case IQ=>
    refine aA λI a w U=>?_
    refine cz (λal=>?_) λal=>?_
    ·refine aF λI a w U=>?_
     refine U.o (.li [x.cells] uR (.u .nil)) λU=>?_
     refine U.ap 3 λIk a w U=>?_
     rw[cA] at U
     refine ai λI a w U=>?_
     first|rw[show out++[x]=cR q.az x from by subst al;exact hp.tY (by omega)] at U|rw[show out=cR q.az x from by subst al;exact hp.tX (by omega)] at U
     exact U.me Ik (by trivial)
    ·refine zt ?_
     first|rw[show out++[x]=cR q.az x from by subst al;exact hp.tY (by omega)] at U|rw[show out=cR q.az x from by subst al;exact hp.tX (by omega)] at U
     exact U.me v (by trivial)
   case IS=>
    rintro v I a w aj U
    refine wp_seq ?_
    obtain⟨I,U⟩:=U.fr 3 7
    refine aF λI a w U=>?_
    try have akK:=U.eJ 3 rfl
    refine ob λI a w U=>?_
    refine cz (λaH=>?_) λaH=>?_
    ·refine wp_seq ?_
     obtain⟨I,U⟩:=U.fu 0 12 1
     refine aA λI a w U=>?_
     refine U.de () [] rfl (.cons (.sx 2) .nil) trivial rfl ?_
     exact(by unfold na;dsimp only;rw[if_pos (by simpa using aH)];rfl)
    ·refine aF λI a w U=>?_
     refine U.eT [0] (aaG {q with az:=cR q.az x} n t (λy hy=>(qL.1 hy).elim (λe=>e▸hx) (hg y)) (by show(cR q.az x).length<=_;rw[w8];omega) hn) (aw .tt (aw .tt aL)) rfl (by decide) rfl λI a w U=>?_
     refine ai λI a w U=>?_
     refine U.de () [] rfl (.cons (.sx 2) .nil) trivial rfl ?_
     exact(by unfold na;dsimp only;rw[if_neg (by simpa using aH)];rfl)
theorem ac2 (q:Call) (g:Value) (x:Answer) (t t0:Int) (h:dw q t0) (rb:x.be.key=x.key):
 jK Tryz.prog 229 [q.WC g,x.av,AV.int t] [Own.row g 45 9 (q.az.map Answer.cells)] [] (nH q x t).av:=by
 refine c7.intro 68 Tryz.func229 rfl Tryz.ntmps229 rfl (by kernel_rfl) (λW I a U=>?_)
 have oH:=h.lens
 refine sr<|U.box rfl .tt λb3 I a w U=>U.o .bp λU=>U.alloc rfl dQ gD λb6 I a w U=>?_
 refine zt ?_
 refine U.l0 λb9 I a w U=>?_
 refine aA λI a w U=>?_
 refine St.lo (σ:=Nat×Value) (run 2 7 (run 44 10 [])) ⟨λ⟨k,v⟩=>[(8,AV.int k),(7,AV.val v)],λ⟨k,v⟩=>[Own.row g 45 9 ((pL q x k).map Answer.cells),Own.box b3 39 [AV.int q.an,AV.int q.num,AV.int q.kind,jg q.keys,AV.int q.val,bm q.ctx,AV.int q.bD,AV.int q.end_,AV.bool q.over,AV.int q.aq.time,AV.int q.aq.site,AV.val g,bm q.aP],Own.box b6 39 [AV.val (.int .i64 0),AV.val (.int .i64 0),AV.val (.int .i64 0),AV.rows 1 [],AV.val (.int .i64 0),AV.rows 3 [],AV.val (.int .i64 0),AV.val (.int .i64 0),AV.val (.bool false),AV.val (.int .i64 0),AV.val (.int .i64 0),AV.rows 9 [],AV.rows 3 []],Own.row v 63 3 ((pI q x k).map au.cells)],λ⟨k,v⟩=>k<=q.aP.length⟩ (λ⟨k,v⟩=>q.aP.length-k) (0,.slice (some ⟨b9,0,none⟩) 0 0) U ?aJ ?aK
 case aJ=>exact Nat.zero_le _
 case aK=>
  rintro⟨k,v⟩ I a w aj U
  have hk:k<=q.aP.length:=aj
  dsimp only at U
  refine ck λI a w U=>?_
  refine cz (λae=>?_) λae=>?_
  ·refine zt ?_
   refine U.dk ?_
   refine lG ?_
   refine cD ?_
   refine .q .T (mM [_,_] [_,_] og rfl rfl .ag .ag) ?_
   refine bn ?_
   refine .nil ?_
   intro I a w U
   refine aY ?_
   refine U.cd (λah=>?_) λah=>?_
   ·rw[Nx _ x rb,decide_eq_true_eq] at ah
    have p7:=aca h ae ah rb
    obtain⟨uh,su⟩:=xk p7
    rw[Xg h.aP ae ah] at U
    obtain⟨bg,Ri,eg⟩:=U.j7 0 rfl (by simp only[List.length_map];omega)
    subst eg
    refine wp_seq ?_
    refine U.dt 8 ?_
    simp only[TD]
    refine fi ?_
    refine .o (Lp (cs:=[AV.int q.an,AV.int q.num,AV.int q.kind,jg q.keys,AV.int q.val,bm q.ctx,AV.int q.bD,AV.int q.end_,AV.bool q.over,AV.int q.aq.time,AV.int q.aq.site,.val (.slice (some ⟨bg,0,none⟩) (q.az.map Answer.cells).length Ri),bm q.aP]) 0 11 (aw .tt (aw .tt aL)) rfl rfl (CO q x.key) (λ_ _ _ h=>h)) ?_
    refine bn ?_
    refine .o (jr iI fj .tt .tt (λ_=>by simp only[List.length_map];omega)) ?_
    refine .nil ?_
    intro I a w U
    refine U.lX 0 fj .tt .tt rfl (by exact fG (by omega)) rfl rfl λa w U=>?_
    refine zt ?_
    refine aI λI a w U=>?_
    have e9:∀y,y=x.cells->(List.map Answer.cells q.az).set (cv q x.key).toNat y=List.map Answer.cells (pL q x (k+1)):=λy hy=>by rw[hy,ZI ae ah,List.map_set]
    rw[e9,ZK ae ah] at U
    rotate_left
    ·rfl
    exact U.ag (k+1,v) (ae)
   ·rw[Nx _ x rb,decide_eq_false_iff_not] at ah
    refine dD λI a w U=>?_
    refine U.o (.li [(ab q.aP k).cells] iX (.u .nil)) λU=>?_
    refine U.append 3 rfl dJ cH rfl .tt .r rfl (by have:=ZM q x k;simp;omega) λv53 a w U=>?_
    rw[cA,ZL ae ah,ZJ ae ah] at U
    refine aU λI a w U=>?_
    exact U.ag (k+1,v53) (ae)
  ·refine zt ?_
   refine U.m λU=>U.o (rz 3 dJ .tt rfl) λU=>?_
   refine jT λI a w U=>?_
   refine U.cd (λal=>?_) λal=>?_
   ·rw[MJ,decide_eq_true_eq] at al
    refine aI λI a w U=>?_
    obtain⟨I,U⟩:=U.fr 3 7
    refine aF λI a w U=>?_
    try have ac4:=U.eJ 3 rfl
    refine ai λI a w U=>?_
    obtain⟨I,U⟩:=U.fu 0 11 1
    refine aA λI a w U=>?_
    refine U.de () [] rfl (.cons (.sx 2) .nil) trivial rfl ?_
    exact(by rw[QT (k:=k) (by omega),if_pos al];rfl)
   ·rw[MJ,decide_eq_false_iff_not] at al
    refine wp_skip<|aY<|wp_seq ?_
    obtain⟨I,U⟩:=U.fr 3 7
    refine aF λI a w U=>?_
    try have ac4:=U.eJ 3 rfl
    refine ai λI a w U=>?_
    obtain⟨I,U⟩:=U.fu 0 11 1
    refine aA λI a w U=>?_
    refine U.de () [] rfl (.cons (.sx 2) .nil) trivial rfl ?_
    exact(by rw[QT (k:=k) (by omega),if_neg al];rfl)
theorem cx.Fit {w:aE} (h:cx w):w.Fit:=⟨λm hm=>(by have:=u7 (h.words m hm);unfold gh;omega),λq hq=>by
 obtain⟨i,hi,rfl⟩:=gq hq
 have:=qt.1 (h.call hi).an
 unfold gh;omega⟩
theorem Rj {w:aE} (h:cx w) {i j:Nat} (gN:i<j) (hj:j<w.calls.length) (hc:(ab w.calls i).an=(ab w.calls j).an):(ab w.calls i).num<(ab w.calls j).num:=by
 have hh:=(ug.1 h.calls).2
 have h1:=(hh i (by omega)).2.2.1
 have h2:=(hh j hj).2.2.1
 rw[h1,h2,r7 hj,hc]
 simp only[beq_self_eq_true,if_true]
 have:=XF w.calls (a:=i+1) (b:=j) (by omega) (ab w.calls j).an
 omega
theorem Bj {w:aE} (h:cx w) {q p:Call} (hq:q∈w.calls) (hp:p∈w.calls) (hc:q.an=p.an) (hn:q.num=p.num):q=p:=by
 obtain⟨i,hi,rfl⟩:=gq hq
 obtain⟨j,hj,rfl⟩:=gq hp
 rcases Nat.lt_trichotomy i j with bw|he|bw
 ·have:=Rj h bw hj hc;omega
 ·rw[he]
 ·have:=Rj h bw hi hc.symm;omega
theorem ac5 {s:Server} {key an call:Int} (h:kG s key an call=none) {v:aB} (hv:v∈s.ao):o4 s key an call v=false:=by
 unfold kG at h
 rw[List.find?_eq_none] at h
 simpa using h v hv
theorem ac6 (q:Call) (m:aC) (t:Int):(dm q m t).val=q.val:=by
 have e:∀q':Call,∀t,(l7 q' t).val=q'.val:=λq' t=>by unfold l7;split<;>rfl
 unfold dm jW na nH
 dsimp only
 repeat' split
 all_goals first|rfl|exact e _ _
theorem IT {w:aE} (h:cx w) {i j:Nat} (hw:gQ (ab w.calls i)=true) (gN:i<j) (hj:j<w.calls.length):(ab w.calls j).an≠(ab w.calls i).an:=λe=>by
 have:=((ug.1 h.calls).2 j hj).2.2.2 i gN
 obtain⟨h1,h2⟩:=qp hw
 unfold mD at this
 rw[e,h1,h2] at this
 simp at this
theorem ui {w:aE} (h:cx w) {q:Call} (hq:q∈w.calls):q.an.toNat<2/\((q.an.toNat:Nat):Int)=q.an:=by
 obtain⟨i,hi,rfl⟩:=gq hq
 have:=qt.1 (h.call hi).an
 omega
theorem ac7 {q:Call} {t:Int} (hq:dw q t) (he:q.end_≠0) (hk:q.kind=1):bP (bx (dP q) (ab q.keys 0)) q.aq=false:=by
 have U:db q.aq=true:=by
  have h1:=(hq.ended he).2.2.2.1 hk
  have h2:=hq.fits
  unfold kx at h2;rw[h1,Bool.false_or] at h2;exact h2
 unfold dP
 rw[if_neg he,if_pos hk,yQ _ hq.ctx U,if_pos rfl]
 exact yh _ _
theorem dw.D3 {q:Call} {t:Int} (h:dw q t):0<q.keys.length:=by
 have:=h.keys
 unfold iZ at this
 simp only[Bool.and_eq_true,Bool.or_eq_true,beq_iff_eq,aQ,decide_eq_true_eq] at this
 omega
theorem dw.ac8 {q:Call} {t:Int} (h:dw q t):1<=q.bD/\q.bD<=t/\0<=q.end_/\q.end_<=t:=by
 have hb:=h.bD
 by_cases e:q.end_=0
 ·exact⟨hb.1,hb.2,by omega,by omega⟩
 ·have:=(h.ended e).2.1
  exact⟨hb.1,hb.2,by omega,this.2⟩
theorem ac9 (q:Call) (t:Int) (h:dw q t) (ht:t<=1000000):
 Fn Tryz.prog 25 [q.av] (bm (dP q)):=by
 refine Fn.go 13 Tryz.func25 Tryz.ntmps25 (λW I a U=>?_)
 have hq:=pZ.2 h
 have hr:=h.ac8
 have en:=Dt hq
 refine lE λI a w U=>?_
 refine U.o (bY (Du q (q.bD+q.end_) (by omega)) (aw (.t rfl) (aw (.t rfl) aL))) λU=>?_
 refine ai λI a w U=>?_
 refine U.cd (λae=>?_) λae=>?_
 ·exfalso;rw[en] at ae;cases ae
  skip
 ·refine bH λI a w U=>?_
  refine U.o (.c1 (DI q t hq)) λU=>?_
  refine ai λI a w U=>?_
  refine U.rt ?_
  rfl
end Go.Proofs.YtjepcfpkclegdaaGreat
