/- Part 15: contracts of functions, plain facts. -/
import Derived.Test.YtjepcfpkclegdaaGreatP10
import Derived.Test.YtjepcfpkclegdaaGreatP11
import Derived.Test.YtjepcfpkclegdaaGreatP12
import Derived.Test.YtjepcfpkclegdaaGreatP13
set_option linter.unusedVariables false
set_option linter.unusedSimpArgs false
set_option maxRecDepth 100000
set_option maxHeartbeats 4000000
namespace Go.Proofs.YtjepcfpkclegdaaGreat
open Go Go.RowKit
attribute [local irreducible] wpList Code.wp Ok
theorem H5 (m:aC) (h1:gh m.aR) (h2:gh m.to):
 Fn Tryz.prog 90 [m.av] (AV.bool (bO m)):=by
 refine Fn.go 66 Tryz.func90 Tryz.ntmps90 (λW I a U=>?_)
 refine bt λI a w U=>?_
 refine U.o (.cl (jv ..)) λU=>?_
 refine bk λI a w U=>?_
 refine U.q .T (.cl (Oi _ h1)) λU=>?_
 refine bt λI a w U=>?_
 refine U.q .T (.cl (Oi _ h2)) λU=>?_
 refine bt λI a w U=>?_
 refine U.q .T (.cl (jv ..)) λU=>?_
 refine bt λI a w U=>?_
 refine U.q .T (.cl (Au ..)) λU=>?_
 refine bt λI a w U=>?_
 refine U.q .T (.cl (PF ..)) λU=>?_
 refine bt λI a w U=>?_
 refine U.q .T (.cl (jv ..)) λU=>?_
 refine bt λI a w U=>?_
 refine U.q .T (.cl (yr ..)) λU=>?_
 refine bt λI a w U=>?_
 refine U.q .T (.cl (jv ..)) λU=>?_
 refine bt λI a w U=>?_
 refine U.q .T (.cl (jv ..)) λU=>?_
 refine bt λI a w U=>?_
 refine U.q .T (.cl (AN ..)) λU=>?_
 refine bt λI a w U=>?_
 refine U.q .T (.cl (AN ..)) λU=>?_
 refine bt λI a w U=>?_
 refine U.q .T (.cl (Ha ..)) λU=>?_
 refine aA λI a w U=>?_
 refine U.rt ?_
 rfl
def ey (w:aE):Bool:=oz w&&cF w.ax.length (qP w)&&!hasB wU w.ar&&!hasB wV w.seen&&jq w.calls w.time
theorem vw (s:Server):
 Fn Tryz.prog 115 [s.av] (AV.bool (gK s)):=by
 refine Fn.go 177 Tryz.func115 Tryz.ntmps115 (λW I a U=>?_)
 have lens:s.aG.length<=9223372036854775807/\s.ao.length<=9223372036854775807/\s.waits.length<=9223372036854775807/\s.aD.length<=9223372036854775807:=⟨U.ln 0 2,U.ln 0 3,U.ln 0 4,U.ln 0 5⟩
 refine bt λI a w U=>?_
 refine U.o (.c1 (rP ..)) λU=>?_
 refine uO λI a w U=>?_
 refine U.q .F (.cl (u9 ..)) λU=>?_
 refine bM λI a w U=>?_
 refine U.q .F (.cl (u9 ..)) λU=>?_
 refine bM λI a w U=>?_
 refine U.q .F (.cl (Gp ..)) λU=>?_
 refine bM λI a w U=>?_
 refine U.q .F (.cl (Gp ..)) λU=>?_
 refine Cn λI a w U=>?_
 refine U.cd (λae=>?_) λae=>?_
 ·rw[CR] at ae;replace ae:=nt ae
  refine ai λI a w U=>?_
  refine U.rt ?_
  exact bG (by unfold gK;rw[ae];rfl)
 ·rw[CR] at ae;replace ae:=nf ae;obtain⟨A8,xl,H6,hco,yV,hsi⟩:=CS ae
  refine ai λI a w U=>?_
  refine St.lo (σ:=Nat) (run 2 2 (run 43 55 [])) ⟨λk1=>[(3,AV.int k1)],λk1=>[],λk1=>k1<=s.aG.length/\∀i,i<k1->(r6 s) i=true⟩ (λk1=>s.aG.length-k1) 0 U ?aJ ?aK
  case aJ=>exact⟨Nat.zero_le _,λi hi=>by omega⟩
  case aK=>
   rintro k1 I a w aj U
   obtain⟨aal,xm⟩:=aj
   refine ck λI a w U=>?_
   refine cz (λah=>?_) λah=>?_
   ·refine dD λI a w U=>?_
    refine U.o (.cl (jM ..)) λU=>?_
    refine lE λI a w U=>?_
    refine U.q .F (.cl (jM ..)) λU=>?_
    refine FX λI a w U=>?_
    refine U.cd (λal=>?_) λal=>?_
    ·rw[Nl] at al;replace al:=nt al
     refine ai λI a w U=>?_
     refine U.rt ?_
     exact bG (by rw[AU,ae,eB (f:=r6 s) ah al];simp)
    ·rw[Nl] at al;replace al:=nf al
     refine aI λI a w U=>?_
     exact U.ag (k1+1) (⟨by omega,fg xm al⟩)
   ·refine zt ?_
    refine bk λI a w U=>?_
    refine U.o (.cl (OX _ _ A8 xl)) λU=>?_
    refine bM λI a w U=>?_
    refine U.q .F (.cl (OX _ _ A8 H6)) λU=>?_
    refine aA λI a w U=>?_
    refine U.cd (λaH=>?_) λaH=>?_
    ·refine ai λI a w U=>?_
     refine U.rt ?_
     exact bG (by rw[AU,ae];revert aH;cases cF s.ao.length (o7 s s.ao)<;>cases cF s.waits.length (o7 s s.waits)<;>simp)
    ·rw[Bool.or_eq_false_iff] at aH;obtain⟨H7,H8⟩:=aH;replace H7:=nf H7;replace H8:=nf H8
     refine ai λI a w U=>?_
     refine St.lo (σ:=Nat) (2::(run 3 4 (run 40 110 []))) ⟨λk2=>[(4,AV.int k2)],λk2=>[],λk2=>k2<=s.waits.length/\∀i,i<k2->(wW s) i=true⟩ (λk2=>s.waits.length-k2) 0 U ?cU ?cV
     case cU=>exact⟨Nat.zero_le _,λi hi=>by omega⟩
     case cV=>
      rintro k2 I a w aj U
      obtain⟨xh,jC⟩:=aj
      refine ck λI a w U=>?_
      refine cz (λaM=>?_) λaM=>?_
      ·refine zt ?_
       have U:=U.fT
       refine U.eo [([],none),([],none),([],none),([],none),([],none),([],none),([],none),([],none),([],none),([],none),([],none),([],none),([],none),([],none),([],none),([],none),([],none),([],none),([0],some (0,[5])),([0],some (0,[5])),([],none)] (by kernel_rfl) (by kernel_rfl) rfl ?_
       refine qn ?_
       refine .o (.cl (tU ..)) ?_
       refine cD ?_
       refine aS.alloc 0 rfl rfl bA dE<|aS.mz 0 rfl bA rfl .tt rfl rfl ?_
       refine bn ?_
       refine .nil ?_
       intro I a w U
       obtain⟨b5,U⟩:=U.lC (d:=5) 0 rfl rfl
       obtain⟨I,U⟩:=U.fb 0 5
       refine aY<|wp_seq<|U.dk ?_
       refine tv ?_
       refine .q .F (.cl (qw ..)) ?_
       refine bT ?_
       refine .q .F (.cl (qw ..)) ?_
       refine bT ?_
       refine .nil ?_
       intro I a w U
       refine aY ?_
       refine U.cd (λbh=>?_) λbh=>?_
       ·rw[PM s _ xl] at bh;replace bh:=nt bh
        refine ai λI a w U=>?_
        refine U.rt ?_
        exact bG (by rw[AU,ae,eB (f:=wW s) aM bh];simp)
       ·rw[PM s _ xl] at bh;replace bh:=nf bh
        refine aI λI a w U=>?_
        have U:=U.drop 0
        exact U.ag (k2+1) (⟨by omega,fg jC bh⟩)
      ·refine zt ?_
       refine ai λI a w U=>?_
       refine St.lo (σ:=Nat) (2::(run 3 7 (run 27 150 []))) ⟨λk3=>[(7,AV.int k3)],λk3=>[],λk3=>k3<=s.aD.length/\∀i,i<k3->(r8 s) i=true⟩ (λk3=>s.aD.length-k3) 0 U ?fo ?fq
       case fo=>exact⟨Nat.zero_le _,λi hi=>by omega⟩
       case fq=>
        rintro k3 I a w aj U
        obtain⟨H9,pX⟩:=aj
        refine ck λI a w U=>?_
        refine cz (λaZ=>?_) λaZ=>?_
        ·refine zt ?_
         have U:=U.fT
         refine U.eo [([],none),([],none),([],none),([],none),([],none),([],none),([],none),([],none),([],none),([],none),([],none),([],none),([],none),([],none),([],none),([],none),([],none),([],none),([0],some (0,[8])),([0],some (0,[8])),([],none)] (by kernel_rfl) (by kernel_rfl) rfl ?_
         refine qn ?_
         refine .o (.cl (tU ..)) ?_
         refine cD ?_
         refine aS.alloc 0 rfl rfl bA dE<|aS.mz 0 rfl bA rfl .tt rfl rfl ?_
         refine bn ?_
         refine .nil ?_
         intro I a w U
         obtain⟨b8,U⟩:=U.lC (d:=8) 0 rfl rfl
         obtain⟨I,U⟩:=U.fb 0 8
         refine aA λI a w U=>?_
         refine U.cd (λbV=>?_) λbV=>?_
         ·rw[Nm s _ xl] at bV;replace bV:=nt bV
          refine ai λI a w U=>?_
          refine U.rt ?_
          exact bG (by rw[AU,ae,eB (f:=r8 s) aZ bV];simp)
         ·rw[Nm s _ xl] at bV;replace bV:=nf bV
          refine aI λI a w U=>?_
          have U:=U.drop 0
          exact U.ag (k3+1) (⟨by omega,fg pX bV⟩)
        ·refine zt ?_
         refine ai λI a w U=>?_
         refine U.rt ?_
         exact bG (by rw[AU,ae,eP xm (by omega),H7,H8,eP jC (by omega),eP pX (by omega)];rfl)
theorem Ia {w:aE} (h:ey w=true) {k:Nat} (hk:k<4):gK (ab w.ax k)=true/\w.ax.length=4/\(ab w.ax k).site=k:=by
 simp only[ey,Bool.and_eq_true] at h
 have hl:w.ax.length=4:=by
  have:=h.1.1.1.1
  simp[oz] at this;omega
 have:=(gx.1 h.1.1.1.2) k (by omega)
 unfold qP at this
 rw[Bool.and_eq_true] at this
 exact⟨this.2,hl,by simpa using this.1⟩
theorem aam (m:aC) (h1:gh m.aR) (h2:gh m.to):
 Fn Tryz.prog 89 [m.av] (AV.bool (wU m)):=by
 refine Fn.go 6 Tryz.func89 Tryz.ntmps89 (λW I a U=>?_)
 refine bk λI a w U=>?_
 refine U.o (.c1 (H5 _ h1 h2)) λU=>?_
 refine aA λI a w U=>?_
 refine U.rt ?_
 rfl
theorem vx {x:aE} (aj:ey x=true) {i:Nat} (hi:i<4):cn (ab x.ax i).ao=true/\cn (ab x.ax i).waits=true/\gi (ab x.ax i).aD=true/\gi (ab x.ax i).bl=true/\(ab x.ax i).aG.length=3:=by
 have h:=Ia aj hi
 have h2:=CS (Zm h.1)
 exact⟨h2.2.1,h2.2.2.1,h2.2.2.2.1,h2.2.2.2.2.1,h2.1⟩
theorem Ib (x:aE) (s:Int) (aj:ey x=true) (uM:0<=s/\s<=1):
 Fn Tryz.prog 54 [x.av,AV.int s] (bX (bI x s)):=by
 refine Fn.go 39 Tryz.func54 Tryz.ntmps54 (λW I a U=>?_)
 have h4:=(Ia aj (k:=0) (by omega)).2.1
 obtain⟨ca,-⟩:=vx aj (i:=(2*s).toNat) (by omega)
 obtain⟨cb,-⟩:=vx aj (i:=(2*s+1).toNat) (by omega)
 have la:=fV ca
 have lb:=fV cb
 refine bM λI a w U=>?_
 refine U.o (kf .c .tt (λ_=>by omega)) λU=>?_
 refine bk λI a w U=>?_
 refine U.o (bY (kh.fn (vu (ab x.ax (2*s).toNat).ao (by omega) (λv hv=>by have:=pW ca v hv;omega))) (aw .r aL)) λU=>?_
 refine bt λI a w U=>?_
 refine U.o (kf .c .tt (λ_=>by omega)) λU=>?_
 refine jj λI a w U=>?_
 refine St.lo (σ:=Nat) (5::(7::(run 13 25 []))) ⟨λk=>[(25,AV.int k),(5,bX (((ab x.ax (2*s+1).toNat).ao.take k).foldl eH (ab x.ax (2*s).toNat).ao))],λk=>[],λk=>k<=(ab x.ax (2*s+1).toNat).ao.length⟩ (λk=>(ab x.ax (2*s+1).toNat).ao.length-k) 0 U ?aJ ?aK
 case aJ=>exact Nat.zero_le _
 case aK=>
  rintro k I a w aj U
  have hk:k<=(ab x.ax (2*s+1).toNat).ao.length:=aj
  refine ai λI a w U=>?_
  refine cz (λae=>?_) λae=>?_
  ·refine aF λI a w U=>?_
   refine U.alloc rfl bA dE λb7 I a w U=>?_
   refine ai λI a w U=>?_
   obtain⟨I,U⟩:=U.fb 0 7
   refine aF λI a w U=>?_
   refine U.o (.c1 (mS ..)) λU=>?_
   refine U.o (.cl (oj ..)) λU=>?_
   refine ai λI a w U=>?_
   refine cz (λah=>?_) λah=>?_
   ·refine aF λI a w U=>?_
    refine U.o (bY (Dw (((ab x.ax (2*s+1).toNat).ao.take k).foldl eH (ab x.ax (2*s).toNat).ao) (ab (ab x.ax (2*s+1).toNat).ao k) (by have:=Aq ((ab x.ax (2*s+1).toNat).ao.take k) (ab x.ax (2*s).toNat).ao;simp at this;omega) (λv hv=>by have:=M4 (λv hv=>pW cb v (List.mem_of_mem_take hv)) (pW ca) v hv;omega) (by have:=pW cb _ (aV ae);omega)) (aw .r (aw (.t rfl) aL))) λU=>?_
    refine aI λI a w U=>?_
    have U:=U.drop 0
    refine U.again (k+1) ?iM ?iN (by rfl) ?iO (by repeat(first|exact Env.le_rfl|refine Env.jf rfl ?_))
    case iM=>omega
    case iN=>exact ae
    case iO=>exact(Env.dK rfl (by rfl) (Env.dK rfl (by first|exact congrArg bX (by rw[Ar ae,eH,if_pos ah])|exact congrArg bX (by rw[Ar ae,eH,if_neg (by omega)])) Env.le_nil))
   ·refine aA λI a w U=>?_
    have U:=U.drop 0
    refine U.again (k+1) ?nO ?nP (by rfl) ?nQ (by repeat(first|exact Env.le_rfl|refine Env.jf rfl ?_))
    case nO=>omega
    case nP=>exact ae
    case nQ=>exact(Env.dK rfl (by rfl) (Env.dK rfl (by first|exact congrArg bX (by rw[Ar ae,eH,if_pos ah])|exact congrArg bX (by rw[Ar ae,eH,if_neg (by omega)])) Env.le_nil))
  ·refine zt ?_
   refine aA λI a w U=>?_
   refine U.rt ?_
   exact congrArg bX (by rw[List.take_of_length_le (by omega)];rfl)
theorem Ic (s:Server) (key:Int) (aj:gK s=true):
 Fn Tryz.prog 233 [s.av,AV.int key] (AV.bool (gv s key)):=by
 refine Fn.go 21 Tryz.func233 Tryz.ntmps233 (λW I a U=>?_)
 have hp:=AW aj
 refine aA λI a w U=>?_
 refine U.dk ?_
 refine bn ?_
 refine .o (.c1 (vw ..)) ?_
 refine bT ?_
 refine .q .T (.cl (uU ..)) ?_
 refine fi ?_
 refine .q .T (.cl (uV ..)) ?_
 refine .q .T ((by first|exact dS fU er .ag .ag (λhg=>by have:=GV hg;omega)|exact fS fU er .ag .ag (λhg=>by have:=GV hg;omega)|exact fZ fU er .ag .ag (λhg=>by have:=GV hg;omega))) ?_
 refine fi ?_
 refine .nil ?_
 intro I a w U
 refine zt ?_
 refine U.rt ?_
 exact bG (by rw[aj];rfl)
theorem A9:ey cX=true:=by decide
theorem P8 (x:aE) (h:yn x):
 c7 Tryz.prog 44 [x.av] [] (λ_=>True) x.Ob x.Ya:=by
 refine c7.intro 62 Tryz.func44 rfl Tryz.ntmps44 rfl (by kernel_rfl) (λW I a U=>?_)
 obtain⟨⟨h1,h2⟩,⟨h3,h4⟩,⟨h5,h6⟩,h7,h8⟩:=h
 have U:=U.gC (sz:=7) 61
 have U:=U.gC (sz:=13) 39
 have U:=U.gC (sz:=1) 34
 refine bH λI a w U=>?_
 refine U.alloc rfl df dz λb2 I a w U=>?_
 refine zt ?_
 have U:=U.fT
 have U:=U.fT
 have U:=U.fT
 refine U.z9 7 _ [([],none),([],none),([],none),([],none),([5],some (5,[14])),([6],some (6,[15,14])),([4],some (4,[3]))] rfl (by kernel_rfl) (by kernel_rfl) rfl ?_
 simp only[TD]
 refine dq ?_
 refine aS.oW 5 rfl rfl (Z9 x.ar h3 h4) (aw .r aL) ?_
 refine aS.F1 6 [14] (λa=>AV.agg [AV.int x.time,AV.val (.slice none 0 0),AV.val (a.tmps.getD 14 undef),AV.val (.slice none 0 0),AV.val (.slice none 0 0)]) rfl rfl rfl rfl (λa b h=>by simp only[List.forall_mem_cons] at h;simp only[h]) rfl (λF a I he=>Ok.to (.bd x5 (.k (bf.c VA rfl .tt (wy (t:=14) he) bf.nil)))) ?_
 refine aS.alloc 4 rfl rfl df dz<|.nil ?_
 intro I a w U
 obtain⟨b3,U⟩:=U.lC (d:=3) 4 rfl rfl
 change St _ _ [Own.row (.slice none 0 0) 61 7 [],Own.row (.slice none 0 0) 39 13 [],Own.row (.slice none 0 0) 34 1 [],Own.box b2 30 [AV.val (.int .i64 0),AV.rows 7 [],AV.rows 15 [],AV.rows 13 [],AV.rows 1 []],Own.box b3 30 _,Own.row (a.tmps.getD 14 undef) 70 15 (x.ar.map aC.cells),Own.is (AV.agg [AV.int x.time,AV.val (.slice none 0 0),AV.val (a.tmps.getD 14 undef),AV.val (.slice none 0 0),AV.val (.slice none 0 0)]) (a.tmps.getD 15 undef)] _ _ _ at U
 have U:=U.F3 (d:=15) 6 rfl
 have U:=U.drop 6
 generalize a.tmps.getD 14 undef=mF at U
 show wpList _ _ _ _ _ _
 refine ck λI a w U=>?_
 refine St.lo (σ:=Nat×Value) (5::(run 12 19 [])) ⟨λ⟨k,p⟩=>[(19,AV.int k)],λ⟨k,p⟩=>[Own.row p 61 7 ((x.ax.take k).map Server.cells),Own.row (.slice none 0 0) 39 13 ([]),Own.row (.slice none 0 0) 34 1 ([]),Own.box b2 30 [AV.val (.int .i64 0),AV.rows 7 [],AV.rows 15 [],AV.rows 13 [],AV.rows 1 []],Own.box b3 30 [AV.int x.time,AV.val p,AV.val mF,AV.val (.slice none 0 0),AV.val (.slice none 0 0)],Own.row mF 70 15 (x.ar.map aC.cells)],λ⟨k,p⟩=>k<=x.ax.length⟩ (λ⟨k,p⟩=>x.ax.length-k) (0,(.slice none 0 0)) U ?aJ ?aK
 case aJ=>exact Nat.zero_le _
 case aK=>
  rintro⟨k,p⟩ I a w aj U
  have hk:k<=x.ax.length:=aj
  dsimp only at U
  refine ai λI a w U=>?_
  refine cz (λae=>?_) λae=>?_
  ·refine aF λI a w U=>?_
   refine U.alloc rfl cm dF λb5 I a w U=>?_
   refine ai λI a w U=>?_
   obtain⟨I,U⟩:=U.fb 6 5
   refine U.dt 5 ?_
   simp only[TD]
   refine cD ?_
   refine .o (.c1 (ua _ (h2 _ (aV ae)))) ?_
   refine .o (.li [(ab x.ax k).cells] Cs (.u .nil)) ?_
   refine .nil ?_
   intro I a w U
   refine U.ap 0 λHD a w U=>?_
   rw[cA,<-dW ae] at U
   refine U.o .fv λU=>?_
   try have akm:=U.eJ 0 rfl
   refine aI λI a w U=>?_
   have U:=U.drop 6
   exact U.ag (k+1,HD) (ae)
  ·refine wp_exit<|cN<|cN<|gw<|aY<|wp_seq<|wp_seq ?_
   rw[List.take_of_length_le (by omega)] at U
   refine aU λI a w U=>?_
   refine St.lo (σ:=Nat×Value) (7::(run 12 34 [])) ⟨λ⟨k,q⟩=>[(34,AV.int k)],λ⟨k,q⟩=>[Own.row p 61 7 (x.ax.map Server.cells),Own.row q 39 13 ((x.calls.take k).map Call.cells),Own.row (.slice none 0 0) 34 1 ([]),Own.box b2 30 [AV.val (.int .i64 0),AV.rows 7 [],AV.rows 15 [],AV.rows 13 [],AV.rows 1 []],Own.box b3 30 [AV.int x.time,AV.val p,AV.val mF,AV.val q,AV.val (.slice none 0 0)],Own.row mF 70 15 (x.ar.map aC.cells)],λ⟨k,q⟩=>k<=x.calls.length⟩ (λ⟨k,q⟩=>x.calls.length-k) (0,(.slice none 0 0)) U ?cU ?cV
   case cU=>exact Nat.zero_le _
   case cV=>
    rintro⟨k,q⟩ I a w aj U
    have hk:k<=x.calls.length:=aj
    dsimp only at U
    refine ai λI a w U=>?_
    refine cz (λah=>?_) λah=>?_
    ·refine aF λI a w U=>?_
     refine U.alloc rfl dQ gD λb7 I a w U=>?_
     refine ai λI a w U=>?_
     obtain⟨I,U⟩:=U.fb 6 7
     refine U.dt 5 ?_
     simp only[TD]
     refine cD ?_
     refine .o (.c1 (Pw _ (h6 _ (aV ah)))) ?_
     refine .o (.li [(ab x.calls k).cells] Cq (.u .nil)) ?_
     refine .nil ?_
     intro I a w U
     refine U.ap 1 λDF a w U=>?_
     rw[cA,<-dW ah] at U
     refine U.o .fv λU=>?_
     try have aan:=U.eJ 1 rfl
     refine aI λI a w U=>?_
     have U:=U.drop 6
     exact U.ag (k+1,DF) (ah)
    ·refine wp_exit<|cN<|cN<|gw<|aY<|wp_seq<|wp_seq ?_
     rw[List.take_of_length_le (by omega)] at U
     refine aU λI a w U=>?_
     refine St.lo (σ:=Nat×Value) (9::(run 12 49 [])) ⟨λ⟨k,r⟩=>[(49,AV.int k)],λ⟨k,r⟩=>[Own.row p 61 7 (x.ax.map Server.cells),Own.row q 39 13 (x.calls.map Call.cells),Own.row r 34 1 ((x.seen.take k).map fE),Own.box b2 30 [AV.val (.int .i64 0),AV.rows 7 [],AV.rows 15 [],AV.rows 13 [],AV.rows 1 []],Own.box b3 30 [AV.int x.time,AV.val p,AV.val mF,AV.val q,AV.val r],Own.row mF 70 15 (x.ar.map aC.cells)],λ⟨k,r⟩=>k<=x.seen.length⟩ (λ⟨k,r⟩=>x.seen.length-k) (0,(.slice none 0 0)) U ?fo ?fq
     case fo=>exact Nat.zero_le _
     case fq=>
      rintro⟨k,r⟩ I a w aj U
      have hk:k<=x.seen.length:=aj
      dsimp only at U
      refine ai λI a w U=>?_
      refine cz (λal=>?_) λal=>?_
      ·refine aI λI a w U=>?_
       refine U.dt 5 ?_
       simp only[TD]
       refine cD ?_
       refine .o (.cl (tN _ (h8 _ (aV al)))) ?_
       refine .o (.li [fE (ab x.seen k)] FZ (.v .nil)) ?_
       refine .nil ?_
       intro I a w U
       refine U.ap 2 λv58 a w U=>?_
       rw[cA,<-dW al] at U
       refine U.o .fv λU=>?_
       try have akn:=U.eJ 2 rfl
       refine aI λI a w U=>?_
       exact U.ag (k+1,v58) (al)
      ·refine wp_exit<|cN<|cN<|gw<|aY<|wp_seq ?_
       rw[List.take_of_length_le (by omega)] at U
       refine aA λI a w U=>?_
       exact U.de (p,mF,q,r) [0,5,1,2] rfl (.cons (.s 3 df rfl rfl (by first|rfl|assumption)) .nil) trivial rfl rfl
theorem P9 (x:aE) (h:yn x):Fn Tryz.prog 44 [x.av] x.av:=(P8 x h).frozen λr c I a w _ U=>by
 obtain⟨I,U⟩:=U.fa 0 0 1
 obtain⟨I,U⟩:=U.fa 1 0 2
 obtain⟨I,U⟩:=U.fa 2 0 3
 obtain⟨I,U⟩:=U.fa 3 0 4
 exact⟨_,_,_,U⟩
theorem Qa {w:aE} (h:cx w) (e:Ev):cx {w with ar:=jc w e}:=by
 unfold jc
 split
 ·have U:=wH w.ar e.word.toNat
  exact⟨h.time,h.ax,h.site,Nat.le_trans U.length_le h.ar,λm hm=>h.words m (U.subset hm),h.seen,h.jD,h.calls⟩
 ·exact h
theorem DG (b:Nat) (t:Int) (s r q z:Value) (ar more:List aC) (hr:ar.length<=60) (hl:more.length<=1048576) (hd:∀m∈more,kD m):
 c7 Tryz.prog 126 [AV.val (.pointer (some ⟨b,0,none⟩)),bq more] [Own.box b 30 [AV.int t,AV.val s,AV.val r,AV.val q,AV.val z],Own.row r 70 15 ((ar).map aC.cells)] (λ_:Value=>True) (λu=>[Own.box b 30 [AV.int t,AV.val s,AV.val u,AV.val q,AV.val z],Own.row u 70 15 ((eF ar more).map aC.cells)]) (λ_=>AV.dx []):=by
 refine c7.intro 30 Tryz.func126 rfl Tryz.ntmps126 rfl (by kernel_rfl) (λW I a U=>?_)
 rw[show ar=eF ar (more.take 0) from(WI ar).symm] at U
 refine aI λI a w U=>?_
 refine St.lo (σ:=Nat×Value) (5::(run 22 8 [])) ⟨λ⟨k,u⟩=>[(8,AV.int k)],λ⟨k,u⟩=>[Own.box b 30 [AV.int t,AV.val s,AV.val u,AV.val q,AV.val z],Own.row u 70 15 ((eF ar (more.take k)).map aC.cells)],λ⟨k,u⟩=>k<=more.length⟩ (λ⟨k,u⟩=>more.length-k) (0,r) U ?aJ ?aK
 case aJ=>exact Nat.zero_le _
 case aK=>
  rintro⟨k,u⟩ I a w aj U
  have hk:k<=more.length:=aj
  dsimp only at U
  refine ai λI a w U=>?_
  refine cz (λae=>?_) λae=>?_
  ·refine aF λI a w U=>?_
   refine U.alloc rfl dr eb λb5 I a w U=>?_
   refine ai λI a w U=>?_
   obtain⟨I,U⟩:=U.fb 2 5
   refine bt λI a w U=>?_
   refine U.o (rz 1 eU .tt rfl) λU=>?_
   refine ai λI a w U=>?_
   refine cz (λah=>?_) λah=>?_
   ·rw[List.length_map] at ah
    refine U.eo [([],none),([],none),([],none),([],none),([0],none),([],none),([],none),([],none),([1],some (1,[26])),([],none),([],none),([0],some (0,[26]))] (by kernel_rfl) (by kernel_rfl) rfl ?_
    refine dq ?_
    refine .r [0] (.lb 0) ?_
    refine bn ?_
    refine .o (.c1 (A4 (ab more k) (hd _ (aV ae)))) ?_
    refine .o (.li [(ab more k).cells] gP (.u .nil)) ?_
    refine aS.Fw 1 rfl rfl eU dr rfl .tt .r (by rw[List.length_map];have:=WJ ar (more.take k) hr;simp;omega) ?_
    refine bT ?_
    refine aS.B9 0 rfl FY .tt rfl rfl<|.nil ?_
    intro I a w U
    change St _ _ [Own.box b 30 [AV.int t,AV.val s,AV.val (a.tmps.getD 26 undef),AV.val q,AV.val z],Own.row (a.tmps.getD 26 undef) 70 15 (((eF ar (more.take k)).map aC.cells)++[(ab more k).cells]),Own.gone] _ _ _ at U
    generalize a.tmps.getD 26 undef=xo at U
    rw[cA,WG ae (by omega)] at U
    refine aA λI a w U=>?_
    have U:=U.drop 2
    exact U.ag (k+1,xo) (ae)
   ·rw[List.length_map] at ah
    refine aA λI a w U=>?_
    have U:=U.drop 2
    rw[WH hr ae (by omega)] at U
    exact U.ag (k+1,u) (ae)
  ·refine zt ?_
   rw[show more.take k=more from List.take_of_length_le (by omega)] at U
   exact U.nv u [0,1] rfl .nil trivial rfl rfl
end Go.Proofs.YtjepcfpkclegdaaGreat
