/- Part 20: contracts of functions, plain facts. -/
import Derived.Test.YtjepcfpkclegdaaGreatP14
import Derived.Test.YtjepcfpkclegdaaGreatP15
import Derived.Test.YtjepcfpkclegdaaGreatP16
import Derived.Test.YtjepcfpkclegdaaGreatP17
set_option linter.unusedVariables false
set_option linter.unusedSimpArgs false
set_option maxRecDepth 100000
set_option maxHeartbeats 4000000
namespace Go.Proofs.YtjepcfpkclegdaaGreat
open Go Go.RowKit
attribute [local irreducible] wpList Code.wp Ok
theorem Q4 (l:List Call) (time:Int) (ht:time<=4611686018427387904) (si:∀q∈l,q.az.length<=1048576):
 Fn Tryz.prog 114 [bK l,AV.int time] (AV.bool (jq l time)):=by
 refine Fn.go 98 Tryz.func114 Tryz.ntmps114 (λW I a U=>?_)
 have hle:=U.cW (t:=0) rfl
 refine aU λI a w U=>?_
 refine cz (λae=>?_) λae=>?_
 ·refine ai λI a w U=>?_
  refine U.rt ?_
  exact bG (by unfold jq;rw[XT ae];simp)
 ·refine ai λI a w U=>?_
  refine St.lo (σ:=Nat) (run 4 4 (run 87 11 [])) ⟨λk=>[(5,AV.int k)],λk=>[],λk=>k<=l.length/\∀i,i<k->(m9 l time) i=true⟩ (λk=>l.length-k) 0 U ?aJ ?aK
  case aJ=>exact⟨Nat.zero_le _,λi hi=>by omega⟩
  case aK=>
   rintro k I a w aj U
   obtain⟨o1,aN⟩:=aj
   refine aU λI a w U=>?_
   refine cz (λah=>?_) λah=>?_
   ·refine zt ?_
    refine U.dk ?_
    refine fi ?_
    refine .o (.c2 (DE _ _ ht (si _ (aV ah)))) ?_
    refine lG ?_
    refine cD ?_
    refine .nil ?_
    intro I a w U
    refine aY ?_
    refine U.cd (λal=>?_) λal=>?_
    ·rw[PS] at al;replace al:=nt al
     refine ai λI a w U=>?_
     refine U.rt ?_
     exact bG (by unfold jq;rw[eB (f:=m9 l time) ah (by rw[Dv,al];rfl)];rfl)
    ·rw[PS] at al;replace al:=nf al
     refine aA λI a w U=>?_
     refine St.lo (σ:=Nat) (4::(run 2 6 (run 48 42 []))) ⟨λk2=>[(7,AV.int k2),(6,AV.int (gn l k2 (ab l k).an))],λk2=>[],λk2=>k2<=k/\∀i,i<k2->(λj=>!mD (ab l j) (ab l k)) i=true⟩ (λk2=>k-k2) 0 U ?cU ?cV
     case cU=>exact⟨Nat.zero_le _,λi hi=>by omega⟩
     case cV=>
      rintro k2 I a w aj U
      obtain⟨xh,jC⟩:=aj
      refine aI λI a w U=>?_
      refine cz (λaH=>?_) λaH=>?_
      ·refine ai λI a w U=>?_
       refine cz (λaM=>?_) λaM=>?_
       ·refine zt ?_
        refine aI λI a w U=>?_
        refine U.again (k2+1) ?iM ?iN (by rfl) ?iO (by repeat(first|exact Env.le_rfl|refine Env.jf rfl ?_))
        case iM=>omega
        case iN=>exact⟨by omega,fg jC (by show(!mD (ab l k2) (ab l k))=true;rw[Xp aM];rfl)⟩
        case iO=>exact(Env.dK rfl (by rfl) (Env.dK rfl (by first|exact congrArg AV.int (by rw[r7 (by omega),if_neg aM])|exact congrArg AV.int (by rw[PR (aN k2 (by omega)),show(ab l k2).an=(ab l k).an by omega])) Env.le_nil))
       ·refine jT λI a w U=>?_
        refine U.cd (λbh=>?_) λbh=>?_
        ·rw[Np (by omega)] at bh
         refine ai λI a w U=>?_
         refine U.rt ?_
         exact bG (by unfold jq;rw[eB (f:=m9 l time) ah (by rw[Dv,eB (f:=λj=>!mD (ab l j) (ab l k)) (k:=k2) (by omega) (by rw[bh];rfl)];simp)];rfl)
        ·rw[Np (by omega)] at bh
         refine aI λI a w U=>?_
         refine U.again (k2+1) ?nO ?nP (by rfl) ?nQ (by repeat(first|exact Env.le_rfl|refine Env.jf rfl ?_))
         case nO=>omega
         case nP=>exact⟨by omega,fg jC (by show(!mD (ab l k2) (ab l k))=true;rw[bh];rfl)⟩
         case nQ=>exact(Env.dK rfl (by rfl) (Env.dK rfl (by first|exact congrArg AV.int (by rw[r7 (by omega),if_neg aM])|exact congrArg AV.int (by rw[PR (aN k2 (by omega)),show(ab l k2).an=(ab l k).an by omega])) Env.le_nil))
      ·refine zt ?_
       refine dD λI a w U=>?_
       refine U.o (kS .tt .c (λ_=>by have:=CU l k2 (ab l k).an;omega)) λU=>?_
       refine ai λI a w U=>?_
       refine cz (λaZ=>?_) λaZ=>?_
       ·refine ai λI a w U=>?_
        refine U.rt ?_
        exact bG (by unfold jq;rw[eB (f:=m9 l time) ah (by rw[Dv,r7 ah,if_pos rfl,show((ab l k).num==gn l k (ab l k).an+1)=false by(rw[show k2=k by omega] at aZ;simpa using aZ)];simp)];rfl)
       ·refine aI λI a w U=>?_
        exact U.ag (k+1) (⟨by omega,fg aN (by rw[Dv,al,eP jC (by omega)];simp only[Bool.true_and,Bool.and_true,beq_iff_eq];rw[r7 ah,if_pos rfl];rw[show k2=k by omega] at aZ;omega)⟩)
   ·refine zt ?_
    refine ai λI a w U=>?_
    refine U.rt ?_
    exact bG (by unfold jq;rw[eP aN (by omega)];simp;omega)
theorem ko {w:aE}:ey w=true↔cx w/\w.time<=99999:=by
 unfold ey oz
 simp only[Bool.and_eq_true]
 rw[gx]
 have e1:(!hasB wU w.ar)=true↔∀m∈w.ar,bO m=true:=by
  rw[Bool.not_eq_true',Dy];unfold wU;simp
 have e2:(!hasB wV w.seen)=true↔∀l∈w.seen,bN l=true:=by
  rw[Bool.not_eq_true',Dy];unfold wV;simp
 have e3:(!(!aQ w.time 0 99999||((w.ax.length:Int) !=4)||decide (60<(w.ar.length:Int))||((w.seen.length:Int) !=2)))=true↔(0<=w.time/\w.time<=99999)/\w.ax.length=4/\w.ar.length<=60/\w.seen.length=2:=by
  simp only[Bool.not_eq_true',Bool.or_eq_false_iff,Bool.not_eq_false',aQ,Bool.and_eq_true,decide_eq_true_eq,decide_eq_false_iff_not,bne_eq_false_iff_eq]
  omega
 rw[e1,e2,e3]
 have e4:∀i,qP w i=true↔(ab w.ax i).site=(i:Int)/\bF (ab w.ax i):=λi=>by
  unfold qP;rw[Bool.and_eq_true,beq_iff_eq,jY]
 constructor
 ·rintro⟨⟨⟨⟨⟨⟨a1,a2⟩,a3,a4,a5⟩,a6⟩,a7⟩,a8⟩,a9⟩
  exact⟨⟨a1,a3,λi hi=>(e4 i).1 (a6 i (by omega)),a4,a7,a5,a8,a9⟩,a2⟩
 ·rintro⟨h,ht⟩
  exact⟨⟨⟨⟨⟨⟨h.time,ht⟩,h.ax,h.ar,h.seen⟩,λi hi=>(e4 i).2 (h.site i (by rw[h.ax] at hi;exact hi))⟩,h.words⟩,h.jD⟩,h.calls⟩
theorem y8 (s:Server) (h:eK s):
 Fn Tryz.prog 239 [s.av] ((fO s).av):=by
 refine Fn.go 91 Tryz.func239 Tryz.ntmps239 (λW I a U=>?_)
 refine sr<|U.box rfl .tt λb1 I a w U=>U.alloc rfl cm dF λb2 I a w U=>?_
 refine ai λI a w U=>?_
 refine St.lo (σ:=Bool×Server) (run 5 3 (run 55 10 [])) ⟨λ⟨g,u⟩=>[(3,AV.bool g)],λ⟨g,u⟩=>[Own.box b1 61 u.cells,Own.box b2 61 [AV.val (.int .i64 0),AV.val (.bool false),AV.rows 2 [],AV.rows 7 [],AV.rows 7 [],AV.rows 3 [],AV.rows 3 []]],λ⟨g,u⟩=>eK u/\ja u=ja s/\(g=false->eL u<0)/\u.bl=s.bl⟩ (λ⟨g,u⟩=>2*u.waits.length+g.toNat) (true,s) U ?aJ ?aK
 case aJ=>exact⟨h,rfl,(λe=>by cases e),rfl⟩
 case aK=>
  rintro⟨g,u⟩ I a w aj U
  obtain⟨hu,eM,acm,qQ⟩:=aj
  have lR:=fV hu.waits
  have lV:=hu.bl
  dsimp only at U
  refine ai λI a w U=>?_
  refine U.cd (λae=>?_) λae=>?_
  ·refine aA λI a w U=>?_
   refine St.lo (σ:=Nat×Bool×Server) (run 5 3 (run 54 11 [])) ⟨λ⟨i,g2,u2⟩=>[(4,AV.int i),(3,AV.bool g2)],λ⟨i,g2,u2⟩=>[Own.box b1 61 u2.cells,Own.box b2 61 [AV.val (.int .i64 0),AV.val (.bool false),AV.rows 2 [],AV.rows 7 [],AV.rows 7 [],AV.rows 3 [],AV.rows 3 []]],λ⟨i,g2,u2⟩=>(g2=false->u=u2/\i<=u.waits.length/\(u.ao.length<80->∀j,j<i->ll u (ab u.waits j)=false))/\(g2=true->0<=eL u/\u2=nD u (eL u).toNat)⟩ (λ⟨i,g2,u2⟩=>if g2 then 0 else u.waits.length-i+1) (0,false,u) U ?cU ?cV
   case cU=>exact⟨λ_=>⟨rfl,Nat.zero_le _,λ_ j hj=>by omega⟩,λe=>by cases e⟩
   case cV=>
    rintro⟨i,g2,u2⟩ I a w aj U
    obtain⟨hf,ht⟩:=aj
    dsimp only at U
    refine mA λI a w U=>?_
    refine cz (λah=>?_) λah=>?_
    ·obtain⟨hi,su⟩:=ah;obtain⟨rfl,kU,kY⟩:=hf su;subst su
     refine bk λI a w U=>?_
     refine U.o ((by first|exact dS cJ bA .tt .tt (λ_=>by exact hi)|exact fS cJ bA .tt .tt (λ_=>by exact hi)|exact fZ cJ bA .tt .tt (λ_=>by exact hi))) λU=>?_
     refine U.o .la λU=>?_
     refine U.alloc rfl bA dE λb5 I a w U=>?_
     refine ai λI a w U=>?_
     obtain⟨I,U⟩:=U.fb 2 5
     refine U.dk ?_
     refine dq ?_
     refine .o (.c1 (uV _)) ?_
     refine .o ((by first|exact dS fU er .tt .tt (λ_=>by have:=qF (qA (uW hu.waits hi));have:=hu.aG;omega)|exact fS fU er .tt .tt (λ_=>by have:=qF (qA (uW hu.waits hi));have:=hu.aG;omega)|exact fZ fU er .tt .tt (λ_=>by have:=qF (qA (uW hu.waits hi));have:=hu.aG;omega))) ?_
     refine fK ?_
     refine .q .F (.cl (aat u (ab u.waits i) hu.ao)) ?_
     refine bT ?_
     refine .nil ?_
     intro I a w U
     refine aY ?_
     refine U.cd (λal=>?_) λal=>?_
     ·rw[N1] at al;replace al:=nt al
      refine zt ?_
      refine aI λI a w U=>?_
      have U:=U.drop 2
      exact U.ag (i+1,false,u) (⟨λ_=>⟨rfl,hi,λpR j hj=>by rcases Nat.lt_succ_iff_lt_or_eq.1 hj with h|h;exact kY pR j h;rw[h];exact al⟩,λe=>by cases e⟩) (hμ:=by simp;try omega)
     ·rw[N1] at al;replace al:=nf al
      refine bk λI a w U=>?_
      refine U.o (.cl (DP u.ao (ab u.waits i) hu.ao)) λU=>?_
      refine jj λI a w U=>?_
      refine U.cd (λaH=>?_) λaH=>?_
      ·refine aI λI a w U=>?_
       have U:=U.fT
       refine U.eo [([],none),([],none),([0],none),([],none),([],none),([3],some (3,[57])),([],none),([0],none),([],none),([],none),([],none),([3],some (3,[])),([],none),([0],some (0,[]))] (by kernel_rfl) (by kernel_rfl) rfl ?_
       refine .o (rG cJ bA) ?_
       refine bn ?_
       refine .r [0] (.lb 0) ?_
       refine bn ?_
       refine .o (te cJ bA .r .tt (λ_=>by simp;omega)) ?_
       refine aS.wh 3 rfl rfl cJ bA rfl .tt .r (by have:=fV hu.waits;simp;omega) ?_
       refine bn ?_
       refine .r [0] (.lb 0) ?_
       refine bT ?_
       refine .o (BV cJ bA .r .tt (λ_=>by simp;omega)) ?_
       refine aS.xW 3 rfl rfl cJ bA rfl .r (by have:=fV hu.waits;simp;omega) ?_
       refine bn ?_
       refine aS.iW (x:=AV.any) 0 (λF W0 I0 I a w Q U kk=>U.s1 0 λU=>kk _ _ _ U) ?_
       refine .nil ?_
       intro I a w U
       rw[<-List.map_take,<-List.map_drop,<-List.map_append,if_pos aH,show((i:Int)+1).toNat=i+1 by omega,Int.toNat_natCast] at U
       change St _ _ [Own.box b1 61 (nD u i).cells,Own.box b2 61 [AV.val (.int .i64 0),AV.val (.bool false),AV.rows 2 [],AV.rows 7 [],AV.rows 7 [],AV.rows 3 [],AV.rows 3 []],Own.gone,Own.gone] _ _ _ at U
       refine aU λI a w U=>?_
       have U:=U.drop 2
       exact U.ag (i+1,true,nD u i) (⟨(λe=>by cases e),λ_=>by have e:=XU (vb aH).2.2 hi (kY (vb aH).2.2) al;rw[e];exact⟨by omega,by simp⟩⟩) (hμ:=by simp;try omega)
      ·refine aI λI a w U=>?_
       have U:=U.drop 2
       exact U.ag (i+1,false,u) (⟨λ_=>⟨rfl,hi,λpR=>by have:=Yy hu hi aH;omega⟩,λe=>by cases e⟩) (hμ:=by simp;try omega)
    ·rw[Nat.not_lt] at ah
     refine zt ?_
     exact U.ag (g2,u2) (abb hu eM qQ hf ht ah) (hμ:=by subst ae;exact Yx hf ht)
  ·refine zt ?_
   refine U.l0 λb65 I a w U=>?_
   refine aA λI a w U=>?_
   refine St.lo (σ:=Nat×Value) (run 2 8 (run 22 66 [])) ⟨λ⟨k,v⟩=>[(9,AV.int k),(8,AV.val v)],λ⟨k,v⟩=>[Own.box b1 61 u.cells,Own.box b2 61 [AV.val (.int .i64 0),AV.val (.bool false),AV.rows 2 [],AV.rows 7 [],AV.rows 7 [],AV.rows 3 [],AV.rows 3 []],Own.row v 63 3 (((u.bl.take k).filter (jy u)).map au.cells)],λ⟨k,v⟩=>k<=u.bl.length⟩ (λ⟨k,v⟩=>u.bl.length-k) (0,.slice (some ⟨b65,0,none⟩) 0 0) U ?fo ?fq
   case fo=>exact Nat.zero_le _
   case fq=>
    rintro⟨k,v⟩ I a w aj U
    have hk:k<=u.bl.length:=aj
    dsimp only at U
    refine ck λI a w U=>?_
    refine cz (λaM=>?_) λaM=>?_
    ·refine zt ?_
     refine U.dk ?_
     refine fK ?_
     refine .o (.c2 (PX ..))<|.nil ?_
     intro I a w U
     refine aY ?_
     refine cz (λbh=>?_) λbh=>?_
     ·refine dD λI a w U=>?_
      refine U.o (.li [(ab u.bl k).cells] iX (.u .nil)) λU=>?_
      refine U.append 2 rfl dJ cH rfl .tt .r rfl (by have h1:=rX (jy u) u.bl k;have h2:=hu.bl;simp;omega) λIH a w U=>?_
      rw[cA,<-oA aM bh] at U
      refine aU λI a w U=>?_
      exact U.ag (k+1,IH) (aM)
     ·refine aI λI a w U=>?_
      rw[show(u.bl.take k).filter (jy u)=(u.bl.take (k+1)).filter (jy u) from(ot aM bh).symm] at U
      exact U.ag (k+1,v) (aM)
    ·refine zt ?_
     refine U.m λU=>?_
     obtain⟨I,U⟩:=U.fr 2 88
     refine aU λI a w U=>?_
     have e1:fO s=C4 u:=by unfold fO;rw[<-eM,Dh (acm ae)]
     have e2:u.bl.take k=u.bl:=List.take_of_length_le (by omega)
     refine U.ret rfl (.cons (.sx 1) aX.nil) ?_
     exact(by rw[e1,e2];rfl)
theorem aco (s:Server) (aj:gK s=true):
 Fn Tryz.prog 179 [s.av] ((ou s).av):=by
 refine Fn.go 14 Tryz.func179 Tryz.ntmps179 (λW I a U=>?_)
 have hp:=AW aj
 refine bH λI a w U=>?_
 refine U.alloc rfl cm dF λb2 I a w U=>?_
 refine bH λI a w U=>?_
 refine U.o (.c1 (vw ..)) λU=>?_
 refine ai λI a w U=>?_
 refine U.cd (λae=>?_) λae=>?_
 ·exfalso;rw[aj] at ae;cases ae
  skip
 ·refine bH λI a w U=>?_
  refine U.o (bY (AR s (by have:=vn hp.2.1;have:=vn hp.2.2.1;exact(HA aj).small (by have:=jz hp.2.2.2.1;omega))) (aw (.t rfl) aL)) λU=>?_
  refine U.alloc rfl cm dF λb3 I a w U=>?_
  refine aI λI a w U=>?_
  refine U.l0 λma I a w U=>?_
  obtain⟨I,U⟩:=U.fr 2 11
  refine aU λI a w U=>?_
  refine U.ret rfl (.cons (.sx 0) aX.nil) ?_
  rfl
theorem acp (s:Server) (m:aC) (aj:eK s) (h0:cL s.site=true):
 Fn Tryz.prog 215 [s.av,m.av] ((nN s m).av):=by
 refine Fn.go 37 Tryz.func215 Tryz.ntmps215 (λW I a U=>?_)
 have h8:=aj.bl
 refine sr<|U.box rfl .tt λb2 I a w U=>U.o .bp λU=>U.alloc rfl cm dF λb4 I a w U=>?_
 refine bt λI a w U=>?_
 refine U.o (.bd fL (.k (.t bf.nil))) λU=>?_
 refine U.alloc rfl cH fL λb5 I a w U=>?_
 refine ai λI a w U=>?_
 obtain⟨I,U⟩:=U.fb 2 5
 refine U.dk ?_
 refine dq ?_
 refine .o (.c1 (yp _ h0)) ?_
 refine dq ?_
 refine .q .F (.cl (PX s ⟨m.key,m.aq⟩)) ?_
 refine nx ?_
 refine .nil ?_
 intro I a w U
 refine aY ?_
 refine U.cd (λae=>?_) λae=>?_
 ·rw[Ou s m] at ae;replace ae:=nt ae
  refine aA λI a w U=>?_
  refine U.ret rfl (.cons (.sx 1) aX.nil) ?_
  exact(by unfold nN;rw[ae];rfl)
 ·rw[Ou s m] at ae;replace ae:=nf ae
  refine bk λI a w U=>?_
  refine U.o (bY (Ig s.bl ⟨m.key,m.aq⟩ (by omega)) (aw .r (aw (.t rfl) aL))) λU=>?_
  refine bk λI a w U=>?_
  refine U.o (bY (y8 {s with bl:=ef s.bl ⟨m.key,m.aq⟩} (aj.O6 (by simp only[B] at ae;omega))) (aw (.t rfl) aL)) λU=>?_
  refine ai λI a w U=>?_
  refine U.ret rfl (.cons (.sx 1) aX.nil) ?_
  exact(by unfold nN;rw[ae];rfl)
theorem acq (s:Server) (m:aC) (aj:eK s) (h0:cL s.site=true) (ho:s.aD.length<=80) (hm:bO m=true):
 Fn Tryz.prog 217 [s.av,m.av] ((m7 s m).av):=by
 refine Fn.go 53 Tryz.func217 Tryz.ntmps217 (λW I a U=>?_)
 have jX:=qK hm
 have h3:=aj.aG
 have h4:(dY s m.slot).aG.length=3:=h3
 have e9:∀x,x=dG.cells ⟨m.bz,0⟩->(List.map dG.cells (dY s m.slot).aG).set m.slot.toNat x=List.map dG.cells (l8 s m).aG:=λx h=>by rw[h];exact List.map_set.symm
 refine sr<|U.box rfl .tt λb2 I a w U=>U.o .bp λU=>U.alloc rfl cm dF λb4 I a w U=>nn<|wp_seq<|wp_seq<|U.dk ?_
 refine dq ?_
 refine .o (.c1 (yp _ h0)) ?_
 refine lG ?_
 refine lF ?_
 refine .nil ?_
 intro I a w U
 refine aY ?_
 refine U.cd (λae=>?_) λae=>?_
 ·rw[M6 s m] at ae;replace ae:=nt ae
  refine aA λI a w U=>?_
  refine U.ret rfl (.cons (.sx 1) aX.nil) ?_
  exact(by unfold m7;rw[ae];rfl)
 ·rw[M6 s m] at ae;replace ae:=nf ae
  refine bk λI a w U=>?_
  refine U.o (.c2 (Qt s m.slot aj.ao aj.waits ho)) λU=>?_
  refine ai λI a w U=>?_
  refine U.l0 λb38 I a w U=>?_
  refine aF λI a w U=>?_
  refine U.ap 2 λDq a w U=>?_
  refine U.o .fv λU=>?_
  try have akC:=U.eJ 2 rfl
  refine ai λI a w U=>?_
  simp only[List.nil_append] at U
  obtain⟨b41,akE,e41⟩:=U.j7 2 rfl (by simp only[List.length_map];omega)
  subst e41
  refine dD λI a w U=>?_
  refine U.o (.bd oe (.k bf.nil)) λU=>?_
  refine U.o (jr fU er .tt .tt (λ_=>by simp only[List.length_map];omega)) λU=>?_
  refine U.lX 2 er .tt .tt rfl (by exact fG (by omega)) rfl rfl λa w U=>?_
  refine zt ?_
  rw[e9] at U
  rotate_left
  ·rfl
  obtain⟨I,U⟩:=U.fu 2 2 0
  refine bH λI a w U=>?_
  refine U.o (.c1 (y8 (l8 s m) (aj.gone m))) λU=>?_
  refine ai λI a w U=>?_
  refine U.ret rfl (.cons (.sx 1) aX.nil) ?_
  exact(by unfold m7;rw[ae];rfl)
end Go.Proofs.YtjepcfpkclegdaaGreat
