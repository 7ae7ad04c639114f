/- Part 27: contracts of functions, plain facts. -/
import Derived.Test.YtjepcfpkclegdaaGreatP22
import Derived.Test.YtjepcfpkclegdaaGreatP25
set_option linter.unusedVariables false
set_option linter.unusedSimpArgs false
set_option maxRecDepth 100000
set_option maxHeartbeats 4000000
namespace Go.Proofs.YtjepcfpkclegdaaGreat
open Go Go.RowKit
attribute [local irreducible] wpList Code.wp Ok
theorem adb (s:Server) (m:aC) (hg:bF s) (hm:bO m=true):
 Fn Tryz.prog 216 [s.av,m.av] (AV.dx [(gV s m).1.av,bq (gV s m).2]):=by
 refine Fn.go 158 Tryz.func216 Tryz.ntmps216 (λW I a U=>?_)
 have aj:=jY.2 hg
 have cT:=hg.ok
 have lR:=oB hm
 have jX:=qK hm
 have h3:=hg.aG
 have h4:(dY s m.slot).aG.length=3:=h3
 have oO:=cT.drop m.slot
 have hdv:=fV oO.ao
 have Bk:=fV lR.1
 have IV:=fV lR.2.1
 have Lt:=jz lR.2.2.1
 have hdw:=fV oO.waits
 have hdo:=jz (hg.dY m.slot).aD
 have lens:m.aO.length<=9223372036854775807/\m.ao.length<=9223372036854775807/\m.waits.length<=9223372036854775807/\m.aD.length<=9223372036854775807:=⟨U.ln 1 9,U.ln 1 12,U.ln 1 13,U.ln 1 14⟩
 have kv:=jz hg.aD
 have e9:∀x,x=dG.cells ⟨m.bz,1⟩->(List.map dG.cells (dY s m.slot).aG).set m.slot.toNat x=List.map dG.cells (xv s m 0 0 0).aG:=λx h=>by rw[h];exact List.map_set.symm
 refine aF λI a w U=>?_
 refine U.alloc rfl cm dF λb4 I a w U=>?_
 refine ai λI a w U=>?_
 refine U.l0 λtZ I a w U=>?_
 obtain⟨I,U⟩:=U.fr 1 12
 refine ai λI a w U=>?_
 refine U.dk ?_
 refine dq ?_
 refine .o (.c1 (yp _ hg.site)) ?_
 refine fK ?_
 refine .nil ?_
 intro I a w U
 refine aY ?_
 refine U.cd (λae=>?_) λae=>?_
 ·rw[M7 s m] at ae;replace ae:=nt ae
  refine aU λI a w U=>?_
  refine U.ret rfl (.cons (.sx 0) (.cons .x aX.nil)) ?_
  exact(by rw[abf ae];rfl)
 ·rw[M7 s m] at ae;replace ae:=nf ae
  refine lE λI a w U=>?_
  refine U.o (.bd eb (.k (.k (.k (.k (.k bf.nil)))))) λU=>?_
  refine U.alloc rfl dr eb λb7 I a w U=>?_
  refine ai λI a w U=>?_
  obtain⟨I,U⟩:=U.fb 2 7
  refine ai λI a w U=>?_
  refine U.cd (λah=>?_) λah=>?_
  ·refine wp_seq ?_
   refine U.eo [([],none),([],none),([],none),([0],some (0,[])),([],none)] (by kernel_rfl) (by kernel_rfl) rfl ?_
   refine bT ?_
   refine .o (.li [(oq s m).cells] gP (.u .nil)) ?_
   refine aS.iW (x:=AV.any) 0 (λF W0 I0 I a w Q U kk=>U.sb 0 λU=>kk _ _ _ U) ?_
   refine bn ?_
   refine .nil ?_
   intro I a w U
   refine zt ?_
   refine U.ret rfl (.cons (.sx 0) (.cons .x aX.nil)) ?_
   exact(by rw[Qy ae (by simpa using ah)];rfl)
  ·refine bk λI a w U=>?_
   refine U.o (bY (Qt s m.slot cT.ao cT.waits (by omega)) (aw (.t rfl) (aw (.t rfl) aL))) λU=>?_
   refine U.alloc rfl cm dF λb8 I a w U=>?_
   refine US λI a w U=>?_
   refine U.cd (λal=>?_) λal=>?_
   ·rw[Qu s m] at al;replace al:=nt al
    refine aU λI a w U=>?_
    refine U.ret rfl (.cons (.sx 0) (.cons .x aX.nil)) ?_
    exact(by rw[It ae (by simpa using ah) (by rw[al];rfl)];rfl)
   ·rw[Qu s m] at al;replace al:=nf al
    refine zt ?_
    refine U.l0 λb82 I a w U=>?_
    refine aF λI a w U=>?_
    refine U.ap 4 λv85 a w U=>?_
    refine U.o .fv λU=>?_
    try have akS:=U.eJ 4 rfl
    refine ai λI a w U=>?_
    simp only[List.nil_append] at U
    obtain⟨b85,akU,e85⟩:=U.j7 4 rfl (by simp only[List.length_map];omega)
    subst e85
    refine dD λI a w U=>?_
    refine U.o (.bd oe (.k (.k bf.nil))) λU=>?_
    refine U.o (jr fU er .tt .tt (λ_=>by simp only[List.length_map];omega)) λU=>?_
    refine U.lX 4 er .tt .tt rfl (by exact fG (by omega)) rfl rfl λa w U=>?_
    refine zt ?_
    rw[e9] at U
    rotate_left
    ·rfl
    obtain⟨I,U⟩:=U.fu 4 2 3
    refine ai λI a w U=>?_
    refine St.lo (σ:=Nat) (9::(run 19 95 [])) ⟨λi=>[(9,AV.int i)],λi=>[Own.box b4 61 [AV.val (.int .i64 0),AV.val (.bool false),AV.rows 2 [],AV.rows 7 [],AV.rows 7 [],AV.rows 3 [],AV.rows 3 []],Own.gone,Own.gone,Own.box b8 61 (xv s m i 0 0).cells,Own.gone],λi=>i<=m.ao.length⟩ (λi=>m.ao.length-i) 0 U ?aJ ?aK
    case aJ=>exact Nat.zero_le _
    case aK=>
     rintro i I a w aj U
     have hi:i<=m.ao.length:=aj
     dsimp only at U
     refine ck λI a w U=>?_
     refine cz (λaH=>?_) λaH=>?_
     ·refine zt ?_
      refine U.eo [([],none),([3],none),([],none),([],none),([],none),([],none),([],none),([],none),([],none),([],none),([],none),([],none),([3],some (3,[]))] (by kernel_rfl) (by kernel_rfl) rfl ?_
      refine bn ?_
      refine .r [3] (.lb 3) ?_
      refine fi ?_
      refine .o (.cl (Qx oO.ao lR.1 (Is al).1 aH)) ?_
      refine dq ?_
      refine aS.iW (x:=AV.any) 3 (λF W0 I0 I a w Q U kk=>U.s1 3 λU=>kk _ _ _ U) ?_
      refine .nil ?_
      intro I a w U
      refine aI λI a w U=>?_
      exact U.ag (i+1) (aH)
     ·refine zt ?_
      refine ai λI a w U=>?_
      refine St.lo (σ:=Nat) (10::(run 19 114 [])) ⟨λj=>[(10,AV.int j)],λj=>[Own.box b4 61 [AV.val (.int .i64 0),AV.val (.bool false),AV.rows 2 [],AV.rows 7 [],AV.rows 7 [],AV.rows 3 [],AV.rows 3 []],Own.gone,Own.gone,Own.box b8 61 (xv s m i j 0).cells,Own.gone],λj=>j<=m.waits.length⟩ (λj=>m.waits.length-j) 0 U ?cU ?cV
      case cU=>exact Nat.zero_le _
      case cV=>
       rintro j I a w aj U
       have hj:j<=m.waits.length:=aj
       dsimp only at U
       refine ck λI a w U=>?_
       refine cz (λaM=>?_) λaM=>?_
       ·refine zt ?_
        refine U.eo [([],none),([3],none),([],none),([],none),([],none),([],none),([],none),([],none),([],none),([],none),([],none),([],none),([3],some (3,[]))] (by kernel_rfl) (by kernel_rfl) rfl ?_
        refine bn ?_
        refine .r [3] (.lb 3) ?_
        refine fi ?_
        refine .o (.cl (Qx oO.waits lR.2.1 (Is al).2.1 aM)) ?_
        refine dq ?_
        refine aS.iW (x:=AV.any) 3 (λF W0 I0 I a w Q U kk=>U.s1 3 λU=>kk _ _ _ U) ?_
        refine .nil ?_
        intro I a w U
        refine aI λI a w U=>?_
        exact U.ag (j+1) (aM)
       ·refine zt ?_
        refine ai λI a w U=>?_
        refine St.lo (σ:=Nat) (11::(run 16 133 [])) ⟨λk=>[(11,AV.int k)],λk=>[Own.box b4 61 [AV.val (.int .i64 0),AV.val (.bool false),AV.rows 2 [],AV.rows 7 [],AV.rows 7 [],AV.rows 3 [],AV.rows 3 []],Own.gone,Own.gone,Own.box b8 61 (xv s m i j k).cells,Own.gone],λk=>k<=m.aD.length⟩ (λk=>m.aD.length-k) 0 U ?fo ?fq
        case fo=>exact Nat.zero_le _
        case fq=>
         rintro k I a w aj U
         have hk:k<=m.aD.length:=aj
         dsimp only at U
         refine ck λI a w U=>?_
         refine cz (λbh=>?_) λbh=>?_
         ·refine zt ?_
          refine U.dt 9 ?_
          simp only[TD]
          refine lF ?_
          refine .o (.cl (aaD (Is al).2.2 bh)) ?_
          refine bn ?_
          refine .nil ?_
          intro I a w U
          refine aU λI a w U=>?_
          exact U.ag (k+1) (bh)
         ·refine zt ?_
          refine U.o (.ls 3) λU=>U.o (.c1 (vw ..)) λU=>?_
          refine ai λI a w U=>?_
          refine U.cd (λaZ=>?_) λaZ=>?_
          ·rw[(DR s m (by omega) (by omega) (by omega)),Bool.not_eq_true'] at aZ
           refine aU λI a w U=>?_
           refine U.ret rfl (.cons (.sx 0) (.cons .x aX.nil)) ?_
           exact(by rw[It ae (by simpa using ah) (by rw[al,aZ];rfl)];rfl)
          ·rw[(DR s m (by omega) (by omega) (by omega)),Bool.not_eq_false'] at aZ
           refine zt ?_
           refine U.eo [([3],none),([],none),([],none),([],none),([0],some (0,[])),([],none)] (by kernel_rfl) (by kernel_rfl) rfl ?_
           refine .r [3] (.ls 3) ?_
           refine .o (bY (y8 (xv s m i j k) (by rw[(DR s m (by omega) (by omega) (by omega))];exact(jY.1 aZ).ok)) (aw (.t rfl) aL)) ?_
           refine bn ?_
           refine .o (.li [(oq s m).cells] gP (.u .nil)) ?_
           refine aS.iW (x:=AV.any) 0 (λF W0 I0 I a w Q U kk=>U.sb 0 λU=>kk _ _ _ U) ?_
           refine bn ?_
           refine .nil ?_
           intro I a w U
           refine zt ?_
           refine U.ret rfl (.cons (.sx 0) (.cons .x aX.nil)) ?_
           exact(by rw[Qz ae (by simpa using ah) (by rw[al,aZ];rfl),(DR s m (by omega) (by omega) (by omega))];rfl)
theorem adf (q:Call) (t:Int) (h:dw q t) (ht:t<=1000000):
 Fn Tryz.prog 127 [q.av] (bq (jP q)):=by
 refine Fn.go 103 Tryz.func127 Tryz.ntmps127 (λW I a U=>?_)
 have U:=U.gC (sz:=15) 70
 have U:=U.gC (sz:=15) 70
 have hb:=h.bD
 have xA:=h.Bh (by omega)
 have oH:=h.lens
 have zc:=Hj (q:=q)
 have bB:=qt.1 h.an
 refine bM λI a w U=>?_
 refine U.o (bY (Du q q.bD (by omega)) (aw (.t rfl) (aw (.t rfl) aL))) λU=>?_
 refine bk λI a w U=>?_
 refine U.q .F (.cl (Gi ..)) λU=>?_
 refine aA λI a w U=>?_
 refine U.cd (λae=>?_) λae=>?_
 ·rw[Ra h (by omega)] at ae;replace ae:=nt ae
  refine ai λI a w U=>?_
  refine U.ret rfl (.cons (.nil (sz:=15) rfl) aX.nil) ?_
  exact(by unfold jP;rw[ae];rfl)
 ·rw[Ra h (by omega)] at ae;replace ae:=nf ae
  refine bH λI a w U=>?_
  refine nn ?_
  refine St.cut (σ:=Value) (3::(5::(7::(run 48 22 [])))) ⟨λv=>[(3,AV.val v)],λv=>[Own.row v 70 15 ((asks q).map aC.cells),Own.row (.slice none 0 0) 70 15 ([])],λv=>True⟩ U ?rf ?rh
  case rf=>
   refine aI λI a w U=>?_
   refine cz (λah=>?_) λah=>?_
   ·refine U.dt 11 ?_
    simp only[TD]
    refine tv ?_
    refine .o (.bd eb (.k (.k (.k (.k bf.nil))))) ?_
    refine .o (.li [({cg with kind:=1,key:=ab q.keys 0,val:=q.val,aO:=q.ctx}:aC).cells] gP (.u .nil)) ?_
    refine .nil ?_
    intro I a w U
    refine U.append 0 rfl eU dr rfl .tt .r rfl (by simp) λQF a w U=>?_
    refine ai λI a w U=>?_
    first|(rw[show[({cg with kind:=1,key:=ab q.keys 0,val:=q.val,aO:=q.ctx}:aC).cells]=(asks q).map aC.cells from by unfold asks;rw[if_pos ah];rfl] at U)|rw[GC ah (by omega)] at U
    exact U.me QF (by trivial)
   ·refine aU λI a w U=>?_
    refine St.lo (σ:=Nat×Value) (3::(5::(run 14 40 []))) ⟨λ⟨k,v⟩=>[(40,AV.int k),(3,AV.val v)],λ⟨k,v⟩=>[Own.row v 70 15 ((pK q k).map aC.cells),Own.row (.slice none 0 0) 70 15 ([])],λ⟨k,v⟩=>k<=q.keys.length⟩ (λ⟨k,v⟩=>q.keys.length-k) (0,(.slice none 0 0)) U ?aJ ?aK
    case aJ=>exact Nat.zero_le _
    case aK=>
     rintro⟨k,v⟩ I a w aj U
     have hk:k<=q.keys.length:=aj
     dsimp only at U
     refine ai λI a w U=>?_
     refine cz (λal=>?_) λal=>?_
     ·refine bM λI a w U=>?_
      refine U.o (.c2 (M1 q (ab q.keys k))) λU=>?_
      refine ai λI a w U=>?_
      refine cz (λaH=>?_) λaH=>?_
      ·refine aF λI a w U=>?_
       refine U.o (.bd eb (.k (.k bf.nil))) λU=>?_
       refine U.o (.li [(wL (ab q.keys k)).cells] gP (.u .nil)) λU=>?_
       refine U.append 0 rfl eU dr rfl .tt .r rfl (by have:=Hi q k hk;simp;omega) λv52 a w U=>?_
       rw[cA,OL al (by simpa using aH)] at U
       refine aI λI a w U=>?_
       exact U.ag (k+1,v52) (al)
      ·refine aA λI a w U=>?_
       rw[Nc al (by simpa using aH)] at U
       exact U.ag (k+1,v) (al)
     ·refine wp_exit<|cN<|cN<|gw<|aY<|wp_seq ?_
      rw[Xd (by omega)] at U
      refine aU λI a w U=>?_
      refine St.lo (σ:=Nat×Value) (3::(7::(run 13 57 []))) ⟨λ⟨k,v⟩=>[(57,AV.int k),(3,AV.val v)],λ⟨k,v⟩=>[Own.row v 70 15 ((rZ q k).map aC.cells),Own.row (.slice none 0 0) 70 15 ([])],λ⟨k,v⟩=>k<=q.aP.length⟩ (λ⟨k,v⟩=>q.aP.length-k) (0,v) U ?cU ?cV
      case cU=>exact Nat.zero_le _
      case cV=>
       rintro⟨k,v⟩ I a w aj U
       have hk:k<=q.aP.length:=aj
       dsimp only at U
       refine ai λI a w U=>?_
       refine cz (λaM=>?_) λaM=>?_
       ·refine aF λI a w U=>?_
        refine U.alloc rfl cH fL λb7 I a w U=>?_
        refine ai λI a w U=>?_
        obtain⟨I,U⟩:=U.fb 2 7
        refine bM λI a w U=>?_
        refine U.o (.bd eb (.k (.k (.t bf.nil)))) λU=>?_
        refine U.o (.li [(wM (ab q.aP k)).cells] gP (.u .nil)) λU=>?_
        refine U.append 0 rfl eU dr rfl .tt .r rfl (by have:=OM q k;simp;omega) λIL a w U=>?_
        rw[cA,Xe aM] at U
        refine aI λI a w U=>?_
        have U:=U.drop 2
        exact U.ag (k+1,IL) (aM)
       ·refine zt ?_
        first|(rw[show[({cg with kind:=1,key:=ab q.keys 0,val:=q.val,aO:=q.ctx}:aC).cells]=(asks q).map aC.cells from by unfold asks;rw[if_pos ah];rfl] at U)|rw[GC ah (by omega)] at U
        exact U.me v (by trivial)
  case rh=>
   rintro v I a w aj U
   refine ai λI a w U=>?_
   obtain⟨I,U⟩:=U.fr 0 3
   rw[show([]:List (List AV))=(pb q 0).map aC.cells from rfl] at U
   refine aI λI a w U=>?_
   refine St.lo (σ:=Nat×Value) (8::(run 2 10 (run 30 72 []))) ⟨λ⟨j,u⟩=>[(72,AV.int j),(8,AV.val u)],λ⟨j,u⟩=>[Own.gone,Own.row u 70 15 ((pb q j).map aC.cells)],λ⟨j,u⟩=>j<=(asks q).length⟩ (λ⟨j,u⟩=>(asks q).length-j) (0,(.slice none 0 0)) U ?fo ?fq
   case fo=>exact Nat.zero_le _
   case fq=>
    rintro⟨j,u⟩ I a w aj U
    have hj:j<=(asks q).length:=aj
    dsimp only at U
    refine ai λI a w U=>?_
    refine cz (λbh=>?_) λbh=>?_
    ·refine aF λI a w U=>?_
     refine U.alloc rfl dr eb λlN I a w U=>?_
     refine ai λI a w U=>?_
     rw[show pb q j=pb q j++(kb q (ab (asks q) j)).take 0 from by simp] at U
     refine aF λI a w U=>?_
     refine U.o (kf .c .tt (λ_=>by omega)) λU=>?_
     refine ai λI a w U=>?_
     refine St.lo (σ:=Nat×Int×Int×Int×Int×Value) (8::(11::(run 22 79 []))) ⟨λ⟨i,t11,f1,f2,f3,u2⟩=>[(11,AV.int t11),(8,AV.val u2)],λ⟨i,t11,f1,f2,f3,u2⟩=>[Own.gone,Own.row u2 70 15 ((pb q j++(kb q (ab (asks q) j)).take i).map aC.cells),Own.box lN 70 ({(ab (asks q) j) with aR:=f1,to:=f2,call:=f3}:aC).cells],λ⟨i,t11,f1,f2,f3,u2⟩=>i<=2/\t11=2*q.an+(i:Int)⟩ (λ⟨i,t11,f1,f2,f3,u2⟩=>2-i) (0,2*q.an,(ab (asks q) j).aR,(ab (asks q) j).to,(ab (asks q) j).call,u) U ?q8 ?q9
     case q8=>exact⟨Nat.zero_le _,by simp⟩
     case q9=>
      rintro⟨i,t11,f1,f2,f3,u2⟩ I a w aj U
      obtain⟨hi,rfl⟩:=aj
      dsimp only at U
      refine bk λI a w U=>?_
      refine U.o (kf .c .tt (λ_=>by omega)) λU=>?_
      refine aA λI a w U=>?_
      refine cz (λaZ=>?_) λaZ=>?_
      ·refine zt ?_
       refine U.eo [([],none),([],none),([],none),([],none),([],none),([],none),([],none),([2],some (2,[])),([],none),([2],some (2,[])),([],none),([2],some (2,[]))] (by kernel_rfl) (by kernel_rfl) rfl ?_
       refine lF ?_
       refine aS.iW (x:=AV.any) 2 (λF W0 I0 I a w Q U kk=>U.s1 2 λU=>kk _ _ _ U) ?_
       refine bn ?_
       refine aS.iW (x:=AV.any) 2 (λF W0 I0 I a w Q U kk=>U.s1 2 λU=>kk _ _ _ U) ?_
       refine bn ?_
       refine aS.iW (x:=AV.any) 2 (λF W0 I0 I a w Q U kk=>U.s1 2 λU=>kk _ _ _ U) ?_
       refine .nil ?_
       intro I a w U
       refine aF λI a w U=>?_
       refine U.o (bY (A4 {(ab (asks q) j) with aR:=10+q.an,to:=2*q.an+(i:Int),call:=q.num} (show kD (ab (asks q) j) from Xf (by omega) _ (aV bh))) (aw (.t rfl) aL)) λU=>?_
       refine U.o (.li [({(ab (asks q) j) with aR:=10+q.an,to:=2*q.an+(i:Int),call:=q.num}:aC).cells] gP (.u .nil)) λU=>?_
       refine U.append 1 rfl eU dr rfl .tt .r rfl (by have:=Hk q j (by omega);have:=Hj (q:=q);simp[kb];omega) λadh a w U=>?_
       rw[cA,List.append_assoc,QS q _ (by omega)] at U
       refine aU λI a w U=>?_
       exact U.ag (i+1,2*q.an+(i:Int)+1,10+q.an,2*q.an+(i:Int),q.num,adh) (⟨by show i+1<=2;omega,by simp;omega⟩)
      ·refine zt ?_
       refine aA λI a w U=>?_
       have U:=U.drop 2
       rw[YJ bh (by omega)] at U
       exact U.ag (j+1,u2) (bh)
    ·refine wp_exit<|cN<|cN<|gw<|aY<|wp_seq ?_
     rw[ON ae (by omega)] at U
     obtain⟨I,U⟩:=U.fr 1 8
     refine aA λI a w U=>?_
     refine U.rt ?_
     rfl
theorem adi (q:Call) (m:aC) (t:Int):lM q (dm q m t):=by
 obtain⟨a1,a2,_,_,a5,a6,a7⟩:=Q6 q m t
 exact⟨a1,a2,a7,a6,ac6 q m t,a5⟩
end Go.Proofs.YtjepcfpkclegdaaGreat
